import PyProof.Rows.All
import Wide.All
import OpenK.AllK
import Wide.FinOn
import HandS.ForMost
import HandS.Style
import HandS.Wide
import HandS.StrMore
import HandS.Replace
import HandS.IsInst
import HandS.RaiseMore
import HandS.Walk
import KE.KExcLine
import HandS.ExcInit
import HandS.ExcValue
import HandS.ExcSuper
import HandS.ExcIs
import HandS.ExcField
import KE.KExcIs
import KE.KRevSl
import HandS.OwnEq
import HandS.Defaults
import HandS.DictComp
import PyProof.Rows.SortShellAny
import HandS.MakeKw
import HandS.TryOnly
import HandS.WordsExc
import HandS.EndTab
import KE.KNestM
import HandS.TryMany
import HandS.Lambda
import PySem.Challenge.RW_undername_k47_stores_refused
set_option Elab.async false
set_option linter.all false
set_option maxRecDepth 100000
set_option maxHeartbeats 4000000
/-! U: own rules over the layer, and texts as lists of codes -/
namespace U
open PySem PySem.Spec PyProof.Rows L2
/-- a text from its codes -/
def S (l : List Nat) : Str := ⟨l.toArray⟩
theorem S_toList (l : List Nat) : (S l).cps.toList = l := by simp [S]
theorem S_cps (z : Str) : S z.cps.toList = z := by cases z; simp [S]
theorem S_len (l : List Nat) : (S l).length = l.length := by simp [S, Str.length]
theorem S_inj {a b : List Nat} : S a = S b ↔ a = b := by
  constructor
  · intro h
    have := congrArg (fun z => z.cps.toList) h
    simpa [S_toList] using this
  · rintro rfl; rfl
theorem S_app (a b : List Nat) : S a ++ S b = S (a ++ b) := by
  show Str.mk ((S a).cps ++ (S b).cps) = S (a ++ b)
  simp [S]
theorem str_of (z : Str) : ∃ l, z = S l := ⟨_, (S_cps z).symm⟩
/-- the signs of a text, each a text -/
def chars (l : List Nat) : List V := l.map fun c => V.str (S [c])
section
variable {X : Cx}
theorem items_chars : ∀ {l : List Nat} {acc : List Value}, acc.length = l.length → (∀ (j : Nat) (v : Value), acc[j]? = some v → ∃ (c : Nat) (t : Tok), l[j]? = some c ∧ v = Value.str (S [c]) t) → Vals (chars l) acc
  | [], [], _, _ => .nil
  | [], _ :: _, h, _ => by simp at h
  | _ :: _, [], h, _ => by simp at h
  | c :: l, v :: acc, h, k => by
    refine .cons ?_ (items_chars (by simpa using h) fun j v e => by simpa using k (j + 1) v (by simpa using e))
    obtain ⟨c', t, e, rfl⟩ := k 0 v rfl
    simp at e
    subst e
    exact ⟨t, rfl⟩
theorem call_listS (hc : X.calm = true) : CallR X (.type "list") (fun xs H Q => ∃ l : List Nat, xs = [.str (S l)] ∧ l.length ≤ sizeLine ∧ ∀ p, H p = none → Q (.ref p) (upd H p (.lst (chars l)))) := by
  intro pins s σ H xs us Q I r h
  obtain ⟨l, rfl, hz, q⟩ := h
  obtain ⟨u, rfl, t, rfl⟩ := vals1 r
  refine PySem.call_list_str (I.ok.hd hc) (S l) t (fun h' tk acc c' kp e hi => ?_) (by simpa [S] using hz)
  have hv : Vals (chars l) acc.toList := by
    refine items_chars (by simpa [S] using hi.1) fun j v e => ?_
    have := hi.2 j v (by simpa using e)
    obtain ⟨c, t, h1, h2⟩ := this
    exact ⟨c, t, by simpa [S] using h1, by simpa [S] using h2⟩
  refine ⟨.ref s.heap.objs.size, _, I.laid (t' := tk) kp (Nat.le_refl _) (show ObjOk X.prog X.w _ h' _ (.lst (chars l)) from ⟨by simpa [chars] using hz, acc.toList, c', hv, by simpa using e⟩), rfl, q _ (I.hok.fresh (Nat.le_refl _))⟩
/-- n times the list -/
def rep (l : List Nat) (n : Nat) : List Nat := (List.replicate n l).flatten
theorem rep_len (l : List Nat) (n : Nat) : (rep l n).length = n * l.length := by
  simp [rep, List.length_flatten]
theorem foldl_app (ls : List (Array Nat)) : ∀ acc : Array Nat, (ls.foldl (· ++ ·) acc).toList = acc.toList ++ (ls.map Array.toList).flatten := by
  induction ls with
  | nil => intro acc; simp
  | cons a ls ih => intro acc; simp [ih]
theorem mul_eq (l : List Nat) (n : Nat) : Txt.mul (S l) (n : Int) = S (rep l n) := by
  unfold Txt.mul
  by_cases h1 : (n : Int) < 1
  · have : n = 0 := by omega
    subst this
    simp [rep, S]
    rfl
  · rw [if_neg h1]
    split
    · rename_i h
      rcases Bool.or_eq_true_iff.mp h with h | h
      · have : n = 1 := by
          have := of_decide_eq_true h
          omega
        subst this
        simp [rep]
      · have : l = [] := by
          have := of_decide_eq_true h
          rw [S_len] at this
          exact List.length_eq_zero_iff.mp this
        subst this
        simp [rep, S]
    · show Str.mk _ = S _
      have := foldl_app (List.replicate (n : Int).toNat (S l).cps) #[]
      simp only [List.map_replicate, S_toList] at this
      rw [← S_cps (Str.mk _)]
      rw [this]
      simp [rep]
theorem op_mul_str : OpR X (binaryOp .Mult) (fun x y H Q => ∃ (l : List Nat) (n : Nat), x = .str (S l) ∧ y = .int (n : Int) ∧ l.length * n ≤ 1000000 ∧ n ≤ 1000000 ∧ Q (.str (S (rep l n))) H) := by
  intro pins s σ H x y u v Q I rx ry h
  obtain ⟨l, n, rfl, rfl, hb, hn, q⟩ := h
  obtain ⟨t, rfl⟩ := rx
  obtain ⟨t', rfl⟩ := ry
  refine PySem.SB.mul ⟨?_, ?_, ?_⟩ fun tk k => ⟨.str (S (rep l n)), H, I.tok _, ⟨tk, by rw [mul_eq]⟩, q⟩
  · rw [decide_eq_false (by omega), decide_eq_false (by omega)]; rfl
  · intro h1 _ h2
    rw [S_len] at h2
    have h3 : (1 : Int) ≤ n := by omega
    have h4 : (2 ^ 63 - 1 : Int) / n * n ≤ 2 ^ 63 - 1 := Int.ediv_mul_le _ (by omega)
    have h6 : (l.length : Int) * n ≤ 1000000 := by rw [← Int.natCast_mul]; omega
    have h7 : ((2 ^ 63 - 1 : Int) / n + 1) * n ≤ l.length * n := Int.mul_le_mul_of_nonneg_right (by omega) (by omega)
    have h8 : (2 ^ 63 - 1 : Int) < ((2 ^ 63 - 1 : Int) / n + 1) * n := Int.lt_ediv_add_one_mul_self _ (by omega)
    omega
  · intro _ _
    rw [S_len]
    have : l.length * (n : Int).toNat ≤ 1000000 := by simpa using hb
    have h2 := sizeLine_eq
    show decide (_ > sizeLine) = false
    exact decide_eq_false (by omega)
end
end U
namespace U
open PySem PySem.Spec PyProof.Rows L2
/-- the deal: its great cells at c, the mixed number -/
structure DealIs (H : Hp) (a c : Addr) (ns : List Int) (m : Int) : Prop where
  hd : H a = some (.lst [.ref c, .int m])
  cs : H c = some (.lst (ns.map V.int))
  pos : ∀ n ∈ ns, 0 ≤ n
  few : ns.length ≤ 63
  m0 : 0 ≤ m
  m1 : m < 2147483647
def Deal (H : Hp) (a c : Addr) : Prop := ∃ (ns : List Int) (m : Int), DealIs H a c ns m
/-- all but the deal is kept -/
def Kp (a c : Addr) (H H' : Hp) : Prop := ∀ b o, b ≠ a → b ≠ c → H b = some o → H' b = some o
theorem Kp.refl (a c : Addr) (H : Hp) : Kp a c H H := fun _ _ _ _ h => h
theorem Kp.trans {a c : Addr} {H H1 H2 : Hp} (x : Kp a c H H1) (y : Kp a c H1 H2) : Kp a c H H2 := fun b o h1 h2 h => y b o h1 h2 (x b o h1 h2 h)
theorem Kp.updA {a c : Addr} {H H1 : Hp} {o : HO} (x : Kp a c H H1) : Kp a c H (upd H1 a o) := fun b u h1 h2 h => by rw [upd_ne h1]; exact x b u h1 h2 h
theorem Kp.updC {a c : Addr} {H H1 : Hp} {o : HO} (x : Kp a c H H1) : Kp a c H (upd H1 c o) := fun b u h1 h2 h => by rw [upd_ne h2]; exact x b u h1 h2 h
theorem Kp.new {a c p : Addr} {H H1 : Hp} {o : HO} (x : Kp a c H H1) (hp : H p = none) : Kp a c H (upd H1 p o) := fun b u h1 h2 h => by rw [upd_ne (ne_of_none h hp)]; exact x b u h1 h2 h
theorem Kp.new' {a c p : Addr} {H H1 : Hp} {o : HO} (x : Kp a c H H1) (hp : H1 p = none) : Kp a c H (upd H1 p o) := fun b u h1 h2 h => by
  have := x b u h1 h2 h
  rw [upd_ne (ne_of_none this hp)]; exact this
theorem DealIs.nac {a c : Addr} {H : Hp} {ns : List Int} {m : Int} (d : DealIs H a c ns m) : a ≠ c := ne_of d.hd d.cs (by
  intro h
  have h := HO.lst.inj h
  cases ns with
  | nil => cases h
  | cons n ns => cases h)
theorem DealIs.upd {a c p : Addr} {H : Hp} {o : HO} {ns : List Int} {m : Int} (d : DealIs H a c ns m) (h1 : p ≠ a) (h2 : p ≠ c) : DealIs (L2.upd H p o) a c ns m :=
  ⟨by rw [upd_ne h1.symm]; exact d.hd, by rw [upd_ne h2.symm]; exact d.cs, d.pos, d.few, d.m0, d.m1⟩
theorem DealIs.ne {a c p : Addr} {H : Hp} {ns : List Int} {m : Int} (d : DealIs H a c ns m) (hp : H p = none) : p ≠ a ∧ p ≠ c := ⟨(ne_of_none d.hd hp).symm, (ne_of_none d.cs hp).symm⟩
theorem DealIs.new {a c p : Addr} {H : Hp} {o : HO} {ns : List Int} {m : Int} (d : DealIs H a c ns m) (hp : H p = none) : DealIs (L2.upd H p o) a c ns m := d.upd (d.ne hp).1 (d.ne hp).2
theorem DealIs.setC {a c : Addr} {H : Hp} {ns ns' : List Int} {m : Int} (d : DealIs H a c ns m) (h1 : ∀ n ∈ ns', 0 ≤ n) (h2 : ns'.length ≤ 63) : DealIs (L2.upd H c (.lst (ns'.map V.int))) a c ns' m :=
  ⟨by rw [upd_ne d.nac]; exact d.hd, upd_same, h1, h2, d.m0, d.m1⟩
theorem DealIs.setM {a c : Addr} {H : Hp} {ns : List Int} {m m' : Int} (d : DealIs H a c ns m) (h1 : 0 ≤ m') (h2 : m' < 2147483647) : DealIs (L2.upd H a (.lst [.ref c, .int m'])) a c ns m' :=
  ⟨upd_same, by rw [upd_ne d.nac.symm]; exact d.cs, d.pos, d.few, h1, h2⟩
theorem Deal.new {a c p : Addr} {H : Hp} {o : HO} (d : Deal H a c) (hp : H p = none) : Deal (L2.upd H p o) a c := by
  obtain ⟨ns, m, d⟩ := d
  exact ⟨ns, m, d.new hp⟩
theorem Deal.upd {a c p : Addr} {H : Hp} {o : HO} (d : Deal H a c) (h1 : p ≠ a) (h2 : p ≠ c) : Deal (L2.upd H p o) a c := by
  obtain ⟨ns, m, d⟩ := d
  exact ⟨ns, m, d.upd h1 h2⟩
theorem Deal.ne {a c p : Addr} {H : Hp} (d : Deal H a c) (hp : H p = none) : p ≠ a ∧ p ≠ c := by
  obtain ⟨ns, m, d⟩ := d
  exact d.ne hp
/-- a draw: any number from 0 on, less than many -/
def spDraw : Sp := fun vs H Q _ => ∃ (a c : Addr) (many : Int), vs = [.ref a, .int many] ∧ Deal H a c ∧ 1 ≤ many ∧ many < 2 ^ 200 ∧ ∀ (r : Int) H', 0 ≤ r → r < many → Deal H' a c → Kp a c H H' → Q (.int r) H'
theorem eqv_nil (ns : List Int) : PyData.eqv (.list (ns.map PyData.int)) (.list []) = decide (ns = []) := by
  cases ns <;> simp [PyData.eqv, PyData.eqvAll]
theorem dpInts {K : PySem.W.Frag} {H : Hp} : ∀ ns : List Int, DpAll K H (ns.map V.int) (ns.map PyData.int)
  | [] => .nil
  | n :: ns => .cons (.int n) (dpInts ns)
theorem layInts : ∀ ns : List Int, PyData.canLayAll0 (ns.map PyData.int) = true
  | [] => rfl
  | n :: ns => by simpa [PyData.canLayAll0, PyData.canLay0] using layInts ns
theorem depInts : ∀ ns : List Int, PyData.depthAll (ns.map PyData.int) = 0
  | [] => rfl
  | n :: ns => by simpa [PyData.depthAll, PyData.depth] using depInts ns
theorem shInts (ns : List Int) : SeqAt.shaped (.list (ns.map PyData.int)) = true := by
  simp [SeqAt.shaped, PyData.canLay0, PyData.depth, layInts, depInts]
theorem lt200 {x m : Int} (h0 : 1 ≤ m) (h : m < 2 ^ 200) : CDivW x m :=
  wide_div (b := 200) (by omega) (by omega) (by decide) (by decide)
section
variable {K : PySem.W.Frag} {σ : L2.St} {H : Hp} {a c : Addr} {ns : List Int} {m : Int}
theorem deal0 (d : DealIs H a c ns m) (h : σ[0]? = some (some (.ref a))) {Q : VK} (k : Q (.ref c) H) : tOp (rIxL K) (tVar 0) (tC (.int 0)) σ H Q :=
  ⟨_, h, a, _, 0, .ref c, rfl, rfl, SqL.of d.hd, rfl, k⟩
theorem deal1 (d : DealIs H a c ns m) (h : σ[0]? = some (some (.ref a))) {Q : VK} (k : Q (.int m) H) : tOp (rIxL K) (tVar 0) (tC (.int 1)) σ H Q :=
  ⟨_, h, a, _, 1, .int m, rfl, rfl, SqL.of d.hd, rfl, k⟩
theorem dealNe (d : DealIs H a c ns m) (h : σ[0]? = some (some (.ref a))) {Q : Bool → Hp → Prop} (k : ∀ p, H p = none → DealIs (upd H p (.lst [])) a c ns m → Q (!decide (ns = [])) (upd H p (.lst []))) :
    tTest (tOp (rNeD K) (tOp (rIxL K) (tVar 0) (tC (.int 0))) (tLst tNil)) σ H Q := by
  refine deal0 d h ?_
  refine ⟨Nat.zero_le _, fun p hp => ?_⟩
  have d' : DealIs (upd H p (.lst [])) a c ns m := d.new hp
  refine ⟨_, .list [], .lst (SqL.of d'.cs) (dpInts ns), .lst (SqL.of upd_same) .nil, shInts ns, rfl, _, rfl, ?_⟩
  rw [eqv_nil]
  exact k p hp d'
theorem rev_last {ns : List Int} (h : ns ≠ []) : ∃ l z, ns = l ++ [z] := ⟨ns.dropLast, ns.getLast h, (List.dropLast_concat_getLast h).symm⟩
end
end U
namespace U
open PySem PySem.Spec PyProof.Rows L2
theorem Same.new {H H1 : Hp} {p : Addr} {o : HO} (x : Same H H1) (hp : H1 p = none) : Same H (upd H1 p o) := fun b u h => by
  have := x b u h
  rw [upd_ne (ne_of_none this hp)]; exact this
theorem Same.mut {H H1 : Hp} {p : Addr} {o : HO} (x : Same H H1) (hp : H p = none) : Same H (upd H1 p o) := fun b u h => by
  rw [upd_ne (ne_of_none h hp)]; exact x b u h
theorem Same.rd {H H' : Hp} {a : Addr} {u : HO} (e : Same H H') (h : Rd H a u) : Rd H' a u := by
  rcases h with h | ⟨o, h⟩
  · exact .inl (e a _ h)
  · exact .inr ⟨o, e a _ h⟩
theorem Same.tup {K : PySem.W.Frag} {H H' : Hp} {a : Addr} {xs : List V} (e : Same H H') (h : SqT K H a xs) : SqT K H' a xs := by
  rcases h with h | h
  · exact .inl (Same.rd e h)
  · exact .inr h
theorem cut_map {α : Type} (f : α → V) (xs : List α) (lo hi : Option Int) : ∃ ys : List α, cutV (xs.map f) lo hi = ys.map f ∧ (∀ y ∈ ys, y ∈ xs) ∧ ys.length ≤ xs.length := by
  refine ⟨(xs.drop (HT.sIx xs.length 0 lo)).take (HT.sIx xs.length xs.length hi - HT.sIx xs.length 0 lo), ?_, fun y hy => List.mem_of_mem_drop (List.mem_of_mem_take hy), ?_⟩
  · unfold cutV
    rw [List.length_map, List.map_take, List.map_drop]
  · rw [List.length_take, List.length_drop]
    omega
/-- the deal of a script -/
def spDeal (K : PySem.W.Frag) : Sp := fun vs H Q _ => ∃ (a0 : Addr) (ns : List Int) (b : Int), vs = [.ref a0, .int b] ∧ SqL K H a0 (ns.map V.int) ∧ ns.length ≤ 63 ∧ 0 ≤ b ∧ b ≤ 63 ∧ ∀ a c H', Same H H' → H a = none → H c = none → Deal H' a c → Q (.ref a) H'
/-- something that is walked: its values, what must stand -/
structure Src (J : It) (xs : List V) (G : Hp → Prop) : Prop where
  w : Walk J xs.length G (YAt xs)
  mono : ∀ H H', Same H H' → G H → G H'
theorem src_list (K : PySem.W.Frag) (a : Addr) (xs : List V) : Src (Itl K a) xs (fun H => SqL K H a xs) := ⟨walk_list, fun _ _ e h => e.seq h⟩
theorem src_tup (K : PySem.W.Frag) (a : Addr) (xs : List V) : Src (Itt K a) xs (fun H => SqT K H a xs) := ⟨walk_tup, fun _ _ e h => Same.tup e h⟩
def rngV (lo : Int) (n : Nat) : List V := (List.range n).map fun (i : Nat) => V.int (lo + (i : Int))
theorem rngV_len (lo : Int) (n : Nat) : (rngV lo n).length = n := by simp [rngV]
theorem rngV_get {lo : Int} {n i : Nat} {x : V} : (rngV lo n)[i]? = some x ↔ i < n ∧ x = .int (lo + (i : Int)) := by
  simp only [rngV, List.getElem?_map, List.getElem?_range]
  constructor
  · intro h
    by_cases hi : i < n
    · rw [List.getElem?_range hi] at h
      exact ⟨hi, (Option.some.inj h).symm⟩
    · rw [List.getElem?_eq_none (by simpa using hi)] at h
      cases h
  · rintro ⟨hi, rfl⟩
    rw [List.getElem?_range hi]
    rfl
theorem src_range (lo : Int) (n : Nat) : Src (Itr lo n) (rngV lo n) (fun _ => True) := by
  refine ⟨⟨fun i H hi _ => ?_, fun H _ => ?_, fun i H x H' hi _ hy => ?_⟩, fun _ _ _ _ => trivial⟩
  · rw [rngV_len] at hi; exact hi
  · rw [rngV_len]; exact Nat.le_refl _
  · rw [rngV_len] at hi
    obtain ⟨e1, e2⟩ := hy
    exact ⟨e1, rngV_get.mpr ⟨hi, e2⟩⟩
theorem src_str (l : List Nat) : Src (Its (S l)) (chars l) (fun _ => True) := by
  have e : (S l).cps.size = l.length := S_len l
  have e2 : (chars l).length = l.length := by simp [chars]
  refine ⟨⟨fun i H hi _ => ?_, fun H _ => ?_, fun i H x H' hi _ hy => ?_⟩, fun _ _ _ _ => trivial⟩
  · rw [e2] at hi; show i < (S l).cps.size; omega
  · rw [e2]; show (S l).cps.size ≤ l.length; omega
  · obtain ⟨e1, c, e3, rfl⟩ := hy
    refine ⟨e1, ?_⟩
    have : l[i]? = some c := by simpa [S] using e3
    simp [chars, this, S]
section
variable {J : It} {xs : List V} {G : Hp → Prop} {σ : L2.St} {H H1 : Hp} {D : Addr} {Qd : Hp → Prop} {vs : List Nat} {tt : TT} {te : TE} {j : Nat}
/-- a comprehension whose tests and items leave what stood -/
theorem lcS (s : Src J xs G) (p : V → Bool) (f : V → V) (hG : G H1) (hD : H1 D = none) (hw : ∀ x, wipe ((wipe σ vs).set j (some x)) vs = wipe σ vs) (hl : xs.length ≤ 100000)
    (ht : ∀ x ∈ xs, ∀ H', Same H1 H' → ∀ Q : Bool → Hp → Prop, (∀ H'', Same H' H'' → Q (p x) H'') → tt ((wipe σ vs).set j (some x)) H' Q)
    (he : ∀ x ∈ xs, p x = true → ∀ H', Same H1 H' → ∀ Q : VK, (∀ H'', Same H' H'' → Q (f x) H'') → te ((wipe σ vs).set j (some x)) H' Q)
    (hd : ∀ H', Same H1 H' → H' D = some (.lst ((xs.filter p).map f)) → Qd H') :
    ∃ W : Nat → Nat → Hp → Prop, (∃ m, W 0 m (upd H1 D (.lst []))) ∧ ∀ i m H, W i m H →
      (J.stop i H ∧ Qd H) ∨ (J.go i H ∧ ∃ Nx : Hp → Prop, (∀ H', Nx H' → ∃ m', m' < m ∧ W (i + 1) m' H') ∧ ∀ x H', J.yld i H x H' → gName j x (wipe σ vs) H' fun σ2 H2 => wipe σ2 vs = wipe σ vs ∧ tt σ2 H2 fun b H3 =>
        if b = true then te σ2 H3 fun y H4 => ∃ acc, H4 D = some (.lst acc) ∧ acc.length < sizeLine ∧ Nx (upd H4 D (.lst (acc ++ [y]))) else Nx H3) := by
  refine lc_it s.w (fun i H' => Same H1 H' ∧ H' D = some (.lst (((xs.take i).filter p).map f))) ⟨Same.new (Same.refl _) hD, by rw [upd_same]; rfl⟩ (fun i H' _ h => s.mono _ _ h.1 hG) ?_ (fun H' h => hd H' h.1 (by have := h.2; rw [List.take_length] at this; exact this))
  rintro i x H2 H3 hi ⟨s1, e1⟩ ⟨rfl, hx⟩
  have hm : x ∈ xs := List.mem_of_getElem? hx
  have et : xs.take (i + 1) = xs.take i ++ [x] := by rw [List.take_add_one, hx]; rfl
  refine ⟨hw x, ht x hm _ s1 _ fun H4 s4 => ?_⟩
  cases hp : p x with
  | false =>
    refine iteF ⟨s1.trans s4, ?_⟩
    rw [et, List.filter_append, List.filter_cons_of_neg (by simp [hp]), List.filter_nil, List.append_nil]
    exact s4 _ _ e1
  | true =>
    refine iteT (he x hm hp _ (s1.trans s4) _ fun H5 s5 => ⟨_, s5 _ _ (s4 _ _ e1), ?_, Same.mut ((s1.trans s4).trans s5) hD, ?_⟩)
    · have h1 : (((xs.take i).filter p).map f).length ≤ xs.length := by
        rw [List.length_map]
        refine Nat.le_trans (List.length_filter_le _ _) ?_
        rw [List.length_take]
        omega
      have := sizeLine_eq
      omega
    · rw [upd_same, et, List.filter_append, List.filter_cons_of_pos (by simp [hp]), List.filter_nil, List.map_append]
      rfl
/-- the same without a test -/
theorem lcM (s : Src J xs G) (f : V → V) (hG : G H1) (hD : H1 D = none) (hw : ∀ x, wipe ((wipe σ vs).set j (some x)) vs = wipe σ vs) (hl : xs.length ≤ 100000)
    (he : ∀ x ∈ xs, ∀ H', Same H1 H' → ∀ Q : VK, (∀ H'', Same H' H'' → Q (f x) H'') → te ((wipe σ vs).set j (some x)) H' Q)
    (hd : ∀ H', Same H1 H' → H' D = some (.lst (xs.map f)) → Qd H') :
    ∃ W : Nat → Nat → Hp → Prop, (∃ m, W 0 m (upd H1 D (.lst []))) ∧ ∀ i m H, W i m H →
      (J.stop i H ∧ Qd H) ∨ (J.go i H ∧ ∃ Nx : Hp → Prop, (∀ H', Nx H' → ∃ m', m' < m ∧ W (i + 1) m' H') ∧ ∀ x H', J.yld i H x H' → gName j x (wipe σ vs) H' fun σ2 H2 => wipe σ2 vs = wipe σ vs ∧ tYes σ2 H2 fun b H3 =>
        if b = true then te σ2 H3 fun y H4 => ∃ acc, H4 D = some (.lst acc) ∧ acc.length < sizeLine ∧ Nx (upd H4 D (.lst (acc ++ [y]))) else Nx H3) :=
  lcS s (fun _ => true) f hG hD hw hl (fun x _ H' _ Q k => k H' (Same.refl _)) (fun x hx _ => he x hx) (fun H' s1 e => hd H' s1 (by rw [e, List.filter_eq_self.mpr (fun _ _ => rfl)]))
end
end U
namespace U
open PySem PySem.Spec PyProof.Rows L2
theorem Kp.rd {a c p : Addr} {H H' : Hp} {u : HO} (e : Kp a c H H') (h1 : p ≠ a) (h2 : p ≠ c) (h : Rd H p u) : Rd H' p u := by
  rcases h with h | ⟨o, h⟩
  · exact .inl (e p _ h1 h2 h)
  · exact .inr ⟨o, e p _ h1 h2 h⟩
theorem Kp.sqL {K : PySem.W.Frag} {a c p : Addr} {H H' : Hp} {xs : List V} (e : Kp a c H H') (h1 : p ≠ a) (h2 : p ≠ c) (h : SqL K H p xs) : SqL K H' p xs := by
  rcases h with h | h
  · exact .inl (e.rd h1 h2 h)
  · exact .inr h
theorem Kp.sqT {K : PySem.W.Frag} {a c p : Addr} {H H' : Hp} {xs : List V} (e : Kp a c H H') (h1 : p ≠ a) (h2 : p ≠ c) (h : SqT K H p xs) : SqT K H' p xs := by
  rcases h with h | h
  · exact .inl (e.rd h1 h2 h)
  · exact .inr h
theorem Same.kp {a c : Addr} {H H' : Hp} (e : Same H H') : Kp a c H H' := fun b o _ _ h => e b o h
theorem Deal.free {a c p : Addr} {H H' : Hp} (d : Deal H a c) (e : Kp a c H H') (d' : Deal H' a c) (hp : H' p = none) : H p = none := by
  cases q : H p with
  | none => rfl
  | some o =>
    have n := d'.ne hp
    rw [e p o n.1 n.2 q] at hp
    cases hp
theorem atI_int {α : Type} {xs : List α} {i : Int} {v : α} (h0 : 0 ≤ i) (h : xs[i.toNat]? = some v) : atI xs i = some v := by
  obtain ⟨n, rfl⟩ := Int.eq_ofNat_of_zero_le h0
  exact atI_nat (by simpa using h)
/-- one sign of a text; one thing of a list -/
def spPickS : Sp := fun vs H Q _ => ∃ (a c : Addr) (l : List Nat), vs = [.ref a, .str (S l)] ∧ Deal H a c ∧ l ≠ [] ∧ l.length ≤ 1000 ∧ ∀ (x : Nat) H', x ∈ l → Deal H' a c → Kp a c H H' → Q (.str (S [x])) H'
def spPickL (K : PySem.W.Frag) : Sp := fun vs H Q _ => ∃ (a c p : Addr) (xs : List V), vs = [.ref a, .ref p] ∧ Deal H a c ∧ SqL K H p xs ∧ p ≠ a ∧ p ≠ c ∧ xs ≠ [] ∧ xs.length ≤ 1000 ∧ ∀ (v : V) H', v ∈ xs → Deal H' a c → Kp a c H H' → Q v H'
/-- letters: some signs, each once, ascending -/
def signs : List Nat := (Str.ofString "-./0123456789_abcdefghijklmnopqrstuvwxyz").cps.toList
theorem signs_eq : signs = [45, 46, 47, 48, 49, 50, 51, 52, 53, 54, 55, 56, 57, 95, 97, 98, 99, 100, 101, 102, 103, 104, 105, 106, 107, 108, 109, 110, 111, 112, 113, 114, 115, 116, 117, 118, 119, 120, 121, 122] := by decide +kernel
theorem signs_S : Str.ofString "-./0123456789_abcdefghijklmnopqrstuvwxyz" = S signs := (S_cps _).symm
structure Letters (l : List Nat) (n : Nat) : Prop where
  len : l.length = n
  asc : l.Pairwise (· < ·)
  sub : ∀ x ∈ l, x ∈ signs
theorem nat_of {z : Int} (h : 0 ≤ z) : ∃ n : Nat, z = (n : Int) := ⟨z.toNat, (Int.toNat_of_nonneg h).symm⟩
def spLetters : Sp := fun vs H Q _ => ∃ (a c : Addr) (z : Int), vs = [.ref a, .int z] ∧ Deal H a c ∧ 0 ≤ z ∧ z ≤ 10 ∧ ∀ l H', Letters l z.toNat → Deal H' a c → Kp a c H H' → Q (.str (S l)) H'
/-! ### joined signs, sorted signs -/
theorem join_nil : ∀ ls : List (List Nat), Txt.join (S []) (ls.map S) = S ls.flatten := by
  intro ls
  rw [show Txt.join (S []) (ls.map S) = Str.join (S []) (ls.map S) from PySem.StrLaws.glued_eq_join _ _]
  induction ls with
  | nil => rfl
  | cons x r ih =>
    cases r with
    | nil => simp [Str.join]
    | cons y r =>
      show S x ++ S [] ++ Str.join (S []) (S y :: r.map S) = _
      rw [show (S y :: r.map S) = (y :: r).map S from rfl, ih, S_app, S_app]
      simp
theorem joinOnes (l : List Nat) : Txt.join (S []) (l.map fun c => S [c]) = S l := by
  have h := join_nil (l.map fun c => [c])
  rw [List.map_map] at h
  have e : ∀ l : List Nat, (l.map fun c => [c]).flatten = l := fun l => by
    induction l with
    | nil => rfl
    | cons x r ih => rw [List.map_cons, List.flatten_cons, ih]; rfl
  rw [e] at h
  exact h
theorem len_ones (l : List Nat) : ((l.map fun c => S [c]).map (·.length)).sum = l.length := by
  induction l with
  | nil => rfl
  | cons x r ih =>
    have e : (S [x]).length = 1 := S_len [x]
    simp only [List.map_cons, List.sum_cons, List.length_cons, e]
    omega
theorem chars_eq (l : List Nat) : chars l = (l.map fun c => S [c]).map V.str := by simp [chars]
theorem perm_ones {ys : List Str} {xs : List Nat} (h : ys.Perm (xs.map fun c => S [c])) : ∃ l : List Nat, l.Perm xs ∧ ys = l.map fun c => S [c] := by
  refine ⟨ys.map fun z => z.cps.toList.headD 0, ?_, ?_⟩
  · have h2 := h.map fun z : Str => z.cps.toList.headD 0
    rw [List.map_map] at h2
    have e : (xs.map ((fun z : Str => z.cps.toList.headD 0) ∘ fun c => S [c])) = xs := by
      conv => rhs; rw [← List.map_id xs]
      exact List.map_congr_left fun c _ => by simp [S]
    rw [e] at h2
    exact h2
  · rw [List.map_map]
    conv => lhs; rw [← List.map_id ys]
    refine List.map_congr_left fun z hz => ?_
    obtain ⟨c, _, rfl⟩ := List.mem_map.mp (h.mem_iff.mp hz)
    simp [S]
theorem sorted_ones : ∀ {l : List Nat}, sortedS (l.map fun c => S [c]) = true → l.Pairwise (· ≤ ·) := by
  have key : ∀ (l : List Nat) (p : Nat), risingS (S [p]) (l.map fun c => S [c]) = true → (∀ x ∈ l, p ≤ x) ∧ l.Pairwise (· ≤ ·) := by
    intro l
    induction l with
    | nil => intro p _; exact ⟨fun _ h => (nomatch h), .nil⟩
    | cons x r ih =>
      intro p h
      rw [List.map_cons] at h
      unfold risingS at h
      obtain ⟨h1, h2⟩ := Bool.and_eq_true_iff.mp h
      obtain ⟨h3, h4⟩ := ih x h2
      have h5 : p ≤ x := by
        rw [S_toList, S_toList, ltCps_eq] at h1
        have h1 : decide ([x] < [p]) = false := by simpa using h1
        have h1 := of_decide_eq_false h1
        rw [List.cons_lt_cons_iff] at h1
        omega
      refine ⟨fun y hy => ?_, .cons h3 h4⟩
      rcases List.mem_cons.mp hy with rfl | hy
      · exact h5
      · exact Nat.le_trans h5 (h3 y hy)
  intro l h
  cases l with
  | nil => exact .nil
  | cons x r =>
    obtain ⟨h3, h4⟩ := key r x h
    exact .cons h3 h4
theorem asc_of {l : List Nat} (h : l.Pairwise (· ≤ ·)) (n : l.Nodup) : l.Pairwise (· < ·) := by
  have := h.and n
  exact this.imp fun ⟨a, b⟩ => by omega
theorem seqIx {r : Int} {n : Nat} (h0 : 0 ≤ r) (h1 : r < n) : seqIndex? r n = some r.toNat := by
  have e : ixN n r = some r.toNat := by
    unfold ixN
    rw [if_pos h0, if_pos h1]
  exact (ixN_seq e).1
theorem map_erase {α β : Type} (f : α → β) : ∀ (l : List α) (i : Nat), (l.map f).eraseIdx i = (l.eraseIdx i).map f
  | [], _ => rfl
  | _ :: _, 0 => rfl
  | x :: l, i + 1 => by
    show f x :: (l.map f).eraseIdx i = f x :: (l.eraseIdx i).map f
    rw [map_erase f l i]
theorem erase_perm {α : Type} : ∀ (l : List α) (i : Nat) (h : i < l.length), (l[i] :: l.eraseIdx i).Perm l
  | x :: l, 0, _ => List.Perm.refl _
  | x :: l, i + 1, h => by
    have hi : i < l.length := by simpa using h
    have ih := erase_perm l i hi
    show (l[i] :: x :: l.eraseIdx i).Perm (x :: l)
    exact (List.Perm.swap x l[i] _).trans (ih.cons x)
theorem signs_nd : signs.Nodup := by rw [signs_eq]; decide +kernel
theorem signs_len : signs.length = 40 := by rw [signs_eq]; rfl
theorem empty_S : Str.ofString "" = S [] := rfl
/-- a word over letters -/
def spWord : Sp := fun vs H Q _ => ∃ (a c : Addr) (l : List Nat) (z : Int), vs = [.ref a, .str (S l), .int z] ∧ Deal H a c ∧ l ≠ [] ∧ l.length ≤ 1000 ∧ 0 ≤ z ∧ z ≤ 1000 ∧
  ∀ (x : List Nat) H', x.length ≤ z.toNat → (∀ y ∈ x, y ∈ l) → Deal H' a c → Kp a c H H' → Q (.str (S x)) H'
end U
/-! numbers of names: plain mathematics -/
namespace M3
/-- the place of a letter -/
def ix : List Nat → Nat → Nat
  | [], _ => 0
  | x :: r, c => if x = c then 0 else ix r c + 1
theorem ix_lt : ∀ {L : List Nat} {c : Nat}, c ∈ L → ix L c < L.length
  | x :: r, c, h => by
    unfold ix
    split
    · simp
    · rename_i hn
      have : c ∈ r := by
        rcases List.mem_cons.mp h with e | h
        · exact absurd e.symm hn
        · exact h
      have := ix_lt this
      simp; omega
theorem ix_get : ∀ {L : List Nat} {c : Nat}, c ∈ L → L[ix L c]? = some c
  | x :: r, c, h => by
    unfold ix
    split
    · rename_i e; simp [e]
    · rename_i hn
      have : c ∈ r := by
        rcases List.mem_cons.mp h with e | h
        · exact absurd e.symm hn
        · exact h
      simpa using ix_get this
theorem ix_of {L : List Nat} (nd : L.Nodup) {i c : Nat} (h : L[i]? = some c) : ix L c = i := by
  induction L generalizing i with
  | nil => simp at h
  | cons x r ih =>
    unfold ix
    cases i with
    | zero =>
      have e : x = c := by simpa using h
      simp [e]
    | succ i =>
      have h : r[i]? = some c := by simpa using h
      have hm : c ∈ r := List.mem_of_getElem? h
      have hx : x ∉ r := (List.nodup_cons.mp nd).1
      have hne : x ≠ c := fun e => hx (e ▸ hm)
      rw [if_neg hne, ih (List.nodup_cons.mp nd).2 h]
theorem ix_mono {L : List Nat} (asc : L.Pairwise (· < ·)) {c d : Nat} (hc : c ∈ L) (hd : d ∈ L) : c < d ↔ ix L c < ix L d := by
  have key : ∀ {c d : Nat}, c ∈ L → d ∈ L → ix L c < ix L d → c < d := by
    intro c d hc hd h
    have e1 := ix_get hc
    have e2 := ix_get hd
    have l1 := ix_lt hc
    have l2 := ix_lt hd
    have := List.pairwise_iff_getElem.mp asc (ix L c) (ix L d) l1 l2 h
    rw [List.getElem?_eq_getElem l1] at e1
    rw [List.getElem?_eq_getElem l2] at e2
    rw [Option.some.inj e1, Option.some.inj e2] at this
    exact this
  constructor
  · intro h
    rcases Nat.lt_trichotomy (ix L c) (ix L d) with h1 | h1 | h1
    · exact h1
    · have e1 := ix_get hc
      have e2 := ix_get hd
      rw [h1, e2] at e1
      have := Option.some.inj e1
      omega
    · have := key hd hc h1
      omega
  · exact key hc hd
theorem ix_inj {L : List Nat} {c d : Nat} (hc : c ∈ L) (hd : d ∈ L) (h : ix L c = ix L d) : c = d := by
  have e1 := ix_get hc
  have e2 := ix_get hd
  rw [h, e2] at e1
  exact (Option.some.inj e1).symm
def geo (n : Nat) : Nat → Nat
  | 0 => 0
  | m + 1 => geo n m + n ^ m
/-- digits, the first one the greatest place -/
def pv (n : Nat) : List Nat → Nat
  | [] => 0
  | x :: d => x * n ^ d.length + pv n d
def val (n : Nat) (d : List Nat) : Nat := d.foldl (fun a x => a * n + x + 1) 0
theorem val_app (n : Nat) (d : List Nat) (x : Nat) : val n (d ++ [x]) = val n d * n + x + 1 := by simp [val]
theorem geo_mul (n m : Nat) : geo n (m + 1) = geo n m * n + 1 := by
  induction m with
  | zero => simp [geo]
  | succ m ih =>
    show geo n (m + 1) + n ^ (m + 1) = geo n (m + 1) * n + 1
    conv => lhs; rw [ih]
    show geo n m * n + 1 + n ^ (m + 1) = (geo n m + n ^ m) * n + 1
    rw [Nat.add_mul, Nat.pow_succ]
    omega
theorem pv_app (n : Nat) (d : List Nat) (x : Nat) : pv n (d ++ [x]) = pv n d * n + x := by
  induction d with
  | nil => simp [pv]
  | cons y d ih =>
    show y * n ^ (d ++ [x]).length + pv n (d ++ [x]) = (y * n ^ d.length + pv n d) * n + x
    rw [ih, List.length_append, Nat.add_mul, Nat.mul_assoc, ← Nat.pow_succ]
    show y * n ^ (d.length + 1) + (pv n d * n + x) = y * n ^ (d.length + 1) + pv n d * n + x
    omega
theorem val_eq (n : Nat) (d : List Nat) : val n d = geo n d.length + pv n d := by
  generalize hm : d.length = m
  induction m generalizing d with
  | zero =>
    have : d = [] := List.length_eq_zero_iff.mp hm
    subst this
    rfl
  | succ m ih =>
    have hne : d ≠ [] := by intro e; subst e; simp at hm
    obtain ⟨l, x, rfl⟩ : ∃ l x, d = l ++ [x] := ⟨d.dropLast, d.getLast hne, (List.dropLast_concat_getLast hne).symm⟩
    have hl : l.length = m := by simpa using hm
    rw [val_app, pv_app, geo_mul, ih l hl, Nat.add_mul]
    omega
theorem pv_lt {n : Nat} (hn : 1 ≤ n) : ∀ d : List Nat, (∀ x ∈ d, x < n) → pv n d < n ^ d.length
  | [], _ => by simp [pv]
  | x :: d, h => by
    have h1 := pv_lt hn d fun y hy => h y (List.mem_cons_of_mem _ hy)
    have h2 : x < n := h x List.mem_cons_self
    show x * n ^ d.length + pv n d < n ^ (d.length + 1)
    have h3 : (x + 1) * n ^ d.length ≤ n * n ^ d.length := Nat.mul_le_mul_right _ h2
    rw [Nat.pow_succ, Nat.mul_comm (n ^ d.length) n]
    rw [Nat.add_mul] at h3
    omega
theorem geo_le {n : Nat} {a b : Nat} (h : a ≤ b) : geo n a ≤ geo n b := by
  induction h with
  | refl => exact Nat.le_refl _
  | step _ ih => exact Nat.le_trans ih (Nat.le_add_right _ _)
theorem val_len {n : Nat} (hn : 1 ≤ n) {a b : List Nat} (ha : ∀ x ∈ a, x < n) (h : a.length < b.length) : val n a < val n b := by
  rw [val_eq, val_eq]
  have h1 := pv_lt hn a ha
  have h2 : geo n (a.length + 1) ≤ geo n b.length := geo_le h
  have h3 : geo n (a.length + 1) = geo n a.length + n ^ a.length := rfl
  omega
/-- of one length: by the first unlike digit -/
theorem pv_lex {n : Nat} (hn : 1 ≤ n) : ∀ {a b : List Nat}, a.length = b.length → (∀ x ∈ a, x < n) → (∀ x ∈ b, x < n) → pv n a < pv n b → a < b
  | [], [], _, _, _, h => by simp [pv] at h
  | x :: a, y :: b, hl0, ha, hb, h0 => by
    have hl : a.length = b.length := by simpa using hl0
    have h1 := pv_lt hn a fun y hy => ha y (List.mem_cons_of_mem _ hy)
    have h2 := pv_lt hn b fun y hy => hb y (List.mem_cons_of_mem _ hy)
    have h : x * n ^ a.length + pv n a < y * n ^ b.length + pv n b := h0
    clear h0 hl0
    rw [List.cons_lt_cons_iff]
    rcases Nat.lt_trichotomy x y with e | e | e
    · exact .inl e
    · subst e
      rw [hl] at h
      exact .inr ⟨rfl, pv_lex hn hl (fun y hy => ha y (List.mem_cons_of_mem _ hy)) (fun y hy => hb y (List.mem_cons_of_mem _ hy)) (by omega)⟩
    · exfalso
      have h3 : (y + 1) * n ^ a.length ≤ x * n ^ a.length := Nat.mul_le_mul_right _ e
      rw [Nat.add_mul, hl] at h3
      rw [hl] at h
      omega
theorem pv_inj {n : Nat} (hn : 1 ≤ n) : ∀ {a b : List Nat}, a.length = b.length → (∀ x ∈ a, x < n) → (∀ x ∈ b, x < n) → pv n a = pv n b → a = b
  | [], [], _, _, _, h => rfl
  | x :: a, y :: b, hl0, ha, hb, h0 => by
    have hl : a.length = b.length := by simpa using hl0
    have h1 := pv_lt hn a fun y hy => ha y (List.mem_cons_of_mem _ hy)
    have h2 := pv_lt hn b fun y hy => hb y (List.mem_cons_of_mem _ hy)
    have h : x * n ^ a.length + pv n a = y * n ^ b.length + pv n b := h0
    clear h0 hl0
    rw [hl] at h h1
    rcases Nat.lt_trichotomy x y with e | e | e
    · exfalso
      have h3 : (x + 1) * n ^ b.length ≤ y * n ^ b.length := Nat.mul_le_mul_right _ e
      rw [Nat.add_mul] at h3
      omega
    · subst e
      rw [pv_inj hn hl (fun y hy => ha y (List.mem_cons_of_mem _ hy)) (fun y hy => hb y (List.mem_cons_of_mem _ hy)) (by omega)]
    · exfalso
      have h3 : (y + 1) * n ^ b.length ≤ x * n ^ b.length := Nat.mul_le_mul_right _ e
      rw [Nat.add_mul] at h3
      omega
theorem val_inj {n : Nat} (hn : 1 ≤ n) {a b : List Nat} (ha : ∀ x ∈ a, x < n) (hb : ∀ x ∈ b, x < n) (h : val n a = val n b) : a = b := by
  have hl : a.length = b.length := by
    rcases Nat.lt_trichotomy a.length b.length with e | e | e
    · have := val_len hn ha e; omega
    · exact e
    · have := val_len hn hb e; omega
  refine pv_inj hn hl ha hb ?_
  rw [val_eq, val_eq, hl] at h
  omega
/-- the name with a number: its digits -/
def nm (n : Nat) (k : Nat) : List Nat := if h : k = 0 ∨ n = 0 then [] else nm n ((k - 1) / n) ++ [(k - 1) % n]
termination_by k
decreasing_by
  have h1 : (k - 1) / n ≤ k - 1 := Nat.div_le_self _ _
  omega
theorem nm_zero (n : Nat) : nm n 0 = [] := by rw [nm]; simp
theorem nm_pos {n k : Nat} (hn : 1 ≤ n) (hk : 1 ≤ k) : nm n k = nm n ((k - 1) / n) ++ [(k - 1) % n] := by
  conv => lhs; rw [nm]
  rw [dif_neg (by omega)]
theorem nm_val {n : Nat} (hn : 1 ≤ n) (k : Nat) : val n (nm n k) = k ∧ ∀ x ∈ nm n k, x < n := by
  induction k using Nat.strongRecOn with
  | _ k ih =>
    by_cases hk : k = 0
    · subst hk
      rw [nm_zero]
      exact ⟨rfl, fun _ h => nomatch h⟩
    · rw [nm_pos hn (by omega)]
      have h1 : (k - 1) / n ≤ k - 1 := Nat.div_le_self _ _
      obtain ⟨h2, h3⟩ := ih ((k - 1) / n) (by omega)
      refine ⟨?_, fun x hx => ?_⟩
      · rw [val_app, h2]
        have := Nat.div_add_mod (k - 1) n
        rw [Nat.mul_comm] at this
        omega
      · rcases List.mem_append.mp hx with h | h
        · exact h3 x h
        · rw [List.mem_singleton.mp h]
          exact Nat.mod_lt _ hn
theorem nm_of {n : Nat} (hn : 1 ≤ n) {d : List Nat} (hd : ∀ x ∈ d, x < n) : nm n (val n d) = d :=
  val_inj hn (nm_val hn _).2 hd (nm_val hn _).1
theorem nm_len {n : Nat} (hn : 2 ≤ n) : ∀ (m k : Nat), k < 2 ^ m → (nm n k).length ≤ m
  | 0, k, h => by
    have : k = 0 := by simpa using h
    subst this
    rw [nm_zero]
    simp
  | m + 1, k, h => by
    by_cases hk : k = 0
    · subst hk
      rw [nm_zero]
      simp
    · rw [nm_pos (by omega) (by omega), List.length_append]
      have h1 : (k - 1) / n ≤ (k - 1) / 2 := Nat.div_le_div_left hn (by decide)
      have := nm_len hn m ((k - 1) / n) (by rw [Nat.pow_succ] at h; omega)
      simp; omega
/-- names beside each other -/
theorem nm_next {n : Nat} (hn : 1 ≤ n) (k : Nat) : (nm n k).length ≤ (nm n (k + 1)).length ∧ ((nm n k).length = (nm n (k + 1)).length → nm n k < nm n (k + 1)) := by
  obtain ⟨e1, d1⟩ := nm_val hn k
  obtain ⟨e2, d2⟩ := nm_val hn (k + 1)
  refine ⟨?_, fun hl => ?_⟩
  · apply Nat.le_of_not_lt
    intro h
    have := val_len hn d2 h
    omega
  · refine pv_lex hn hl d1 d2 ?_
    rw [val_eq, hl] at e1
    rw [val_eq] at e2
    omega
/-- digits and letters have one order -/
theorem lex_map {L : List Nat} (asc : L.Pairwise (· < ·)) : ∀ {a b : List Nat}, (∀ x ∈ a, x < L.length) → (∀ x ∈ b, x < L.length) → a < b → a.map (L.getD · 0) < b.map (L.getD · 0)
  | [], [], _, _, h => absurd h (by simp)
  | [], _ :: _, _, _, _ => by simp
  | _ :: _, [], _, _, h => absurd h (by simp)
  | x :: a, y :: b, ha, hb, h => by
    rw [List.cons_lt_cons_iff] at h
    rw [List.map_cons, List.map_cons, List.cons_lt_cons_iff]
    have hx := ha x List.mem_cons_self
    have hy := hb y List.mem_cons_self
    rcases h with h | ⟨e, h⟩
    · left
      have := List.pairwise_iff_getElem.mp asc x y hx hy h
      simpa [List.getD, List.getElem?_eq_getElem hx, List.getElem?_eq_getElem hy] using this
    · subst e
      exact .inr ⟨rfl, lex_map asc (fun y hy => ha y (List.mem_cons_of_mem _ hy)) (fun y hy => hb y (List.mem_cons_of_mem _ hy)) h⟩
theorem val_lt {n : Nat} (hn : 2 ≤ n) (h5 : n ≤ 5) : ∀ d : List Nat, (∀ x ∈ d, x < n) → val n d + 1 ≤ 6 ^ d.length := by
  intro d
  generalize hm : d.length = m
  induction m generalizing d with
  | zero =>
    have : d = [] := List.length_eq_zero_iff.mp hm
    subst this
    intro _
    exact Nat.le_refl _
  | succ m ih =>
    intro h
    have hne : d ≠ [] := by intro e; subst e; simp at hm
    obtain ⟨l, x, rfl⟩ : ∃ l x, d = l ++ [x] := ⟨d.dropLast, d.getLast hne, (List.dropLast_concat_getLast hne).symm⟩
    have hl : l.length = m := by simpa using hm
    have h1 := ih l hl fun y hy => h y (by simp [hy])
    have h2 := h x (by simp)
    rw [val_app, Nat.pow_succ]
    have h3 : val n l * n ≤ val n l * 5 := Nat.mul_le_mul_left _ h5
    omega
end M3
namespace U
open PySem PySem.Spec PyProof.Rows L2
theorem idx_occ {L : List Nat} (nd : L.Nodup) {c : Nat} (hc : c ∈ L) : ∃ rest, Builtin.Str.occurrences (S L) (S [c]) 0 (S L).length 1 = M3.ix L c :: rest := by
  have h := StrLaws.found_one (S L) c
  rw [S_toList, decide_eq_true hc] at h
  have e : (⟨#[c]⟩ : Str) = S [c] := rfl
  rw [e] at h
  cases ho : Builtin.Str.occurrences (S L) (S [c]) 0 (S L).length 1 with
  | nil => rw [ho] at h; cases h
  | cons i rest =>
    have h1 := StrLaws.occ_spec (S L) (S [c]) 0 (S L).length 1 i (by rw [ho]; exact List.mem_cons_self)
    have h2 := (StrLaws.subAt_one (S L) c i).mp h1
    rw [S_toList] at h2
    exact ⟨rest, by rw [M3.ix_of nd h2]⟩
theorem asc_nd {L : List Nat} (h : L.Pairwise (· < ·)) : L.Nodup := h.imp fun h => by omega
theorem getD_get {L : List Nat} {i : Nat} (h : i < L.length) : L[i]? = some (L.getD i 0) := by simp [List.getD, List.getElem?_eq_getElem h]
theorem map_ix_getD {L : List Nat} : ∀ {x : List Nat}, (∀ y ∈ x, y ∈ L) → (x.map (M3.ix L)).map (L.getD · 0) = x
  | [], _ => rfl
  | y :: x, h => by
    have h1 := M3.ix_get (h y List.mem_cons_self)
    rw [List.map_cons, List.map_cons, map_ix_getD fun z hz => h z (List.mem_cons_of_mem _ hz)]
    simp [List.getD, h1]
theorem map_getD_ix {L : List Nat} (nd : L.Nodup) : ∀ {d : List Nat}, (∀ y ∈ d, y < L.length) → (d.map (L.getD · 0)).map (M3.ix L) = d
  | [], _ => rfl
  | y :: d, h => by
    have h1 := M3.ix_of nd (getD_get (h y List.mem_cons_self))
    rw [List.map_cons, List.map_cons, map_getD_ix nd fun z hz => h z (List.mem_cons_of_mem _ hz), h1]
theorem lg {n : Nat} (h : n < 2 ^ 250) : n.log2 < 1920 := by
  by_cases h0 : n = 0
  · subst h0
    decide
  · refine Nat.lt_of_lt_of_le ((Nat.log2_lt h0).mpr h) (by decide)
theorem lgI {z : Int} (h0 : 0 ≤ z) (h : z < 2 ^ 250) : z.natAbs.log2 < 1920 := lg (by omega)
theorem Deal.same {a c : Addr} {H H' : Hp} (d : Deal H a c) (e : Same H H') : Deal H' a c := by
  obtain ⟨ns, m, d⟩ := d
  exact ⟨ns, m, ⟨e _ _ d.hd, e _ _ d.cs, d.pos, d.few, d.m0, d.m1⟩⟩
theorem cut_take (l : List Nat) {r : Int} (h : 0 ≤ r) : cutS (S l) none (some r) = S (l.take r.toNat) := by
  obtain ⟨n, rfl⟩ := nat_of h
  unfold cutS
  rw [S_toList, S_len, HT.sIx_none, HT.sIx_nat, List.drop_zero, Nat.sub_zero, Int.toNat_natCast]
  show S (l.take (min n l.length)) = _
  congr 1
  by_cases hl : n ≤ l.length
  · rw [Nat.min_eq_left hl]
  · rw [Nat.min_eq_right (by omega), List.take_length, List.take_of_length_le (by omega)]
theorem cut_drop (l : List Nat) {r : Int} (h : 0 ≤ r) : cutS (S l) (some r) none = S (l.drop r.toNat) := by
  obtain ⟨n, rfl⟩ := nat_of h
  unfold cutS
  rw [S_toList, S_len, HT.sIx_none, HT.sIx_nat, Int.toNat_natCast]
  show S ((l.drop (min n l.length)).take (l.length - min n l.length)) = _
  congr 1
  by_cases hl : n ≤ l.length
  · rw [Nat.min_eq_left hl, List.take_of_length_le (by rw [List.length_drop]; omega)]
  · rw [Nat.min_eq_right (by omega), List.drop_of_length_le (i := n) (by omega), List.drop_length, List.take_nil]
theorem rep_mem {x : List Nat} {n y : Nat} (h : y ∈ rep x n) : y ∈ x := by
  unfold rep at h
  obtain ⟨l, hl, hy⟩ := List.mem_flatten.mp h
  rw [(List.mem_replicate.mp hl).2] at hy
  exact hy
end U
namespace U
open PySem PySem.Spec PyProof.Rows L2
/-! ### repr of plain values -/
def reprT : V → Str
  | .non => "None"
  | .bl b => if b then "True" else "False"
  | .int i => toString i
  | .str x => reprText x
  | _ => ""
def reprOk : V → Prop
  | .non => True
  | .bl _ => True
  | .int i => i.natAbs.log2 < 1920
  | .str x => (reprText x).length ≤ sizeLine
  | _ => False
section
variable {X : Cx}
theorem call_repr : CallR X (.builtin "repr") (fun xs H Q => ∃ v, xs = [v] ∧ reprOk v ∧ Q (.str (reprT v)) H) := by
  intro pins s σ H xs us Q I r h
  obtain ⟨v, rfl, hz, q⟩ := h
  obtain ⟨u, rfl, rx⟩ := vals1 r
  cases v with
  | non =>
    cases rx
    exact PySem.P.repr_of_none ⟨.str _, H, I.tok _, ⟨_, rfl⟩, q⟩
  | bl b =>
    cases rx
    exact PySem.P.repr_of_bool ⟨.str _, H, I.tok _, ⟨_, by cases b <;> rfl⟩, q⟩
  | int i =>
    obtain ⟨t, rfl⟩ := rx
    exact PySem.P.repr_of_int hz ⟨.str _, H, I.tok _, ⟨_, rfl⟩, q⟩
  | str x =>
    obtain ⟨t, rfl⟩ := rx
    exact PySem.P.repr_of_str ⟨.str _, H, I.tok _, ⟨_, rfl⟩, q⟩ hz
  | byt _ => exact hz.elim
  | flt _ => exact hz.elim
  | ref _ => exact hz.elim
  | ty _ => exact hz.elim
end
/-! ### beginnings, stripped texts -/
theorem starts_eq (a b : List Nat) : Txt.startswith (S a) (S b) = decide (a.take b.length = b) := by
  unfold Txt.startswith
  rw [PySem.StrLaws.subAt_eq, S_toList, S_toList, S_len, S_len, List.drop_zero, Nat.zero_add]
  by_cases h : a.take b.length = b
  · have hl : b.length ≤ a.length := by
      have := congrArg List.length h
      rw [List.length_take] at this
      omega
    simp [h, hl]
  · simp [h]
theorem sub_S (l : List Nat) (i j : Nat) : Builtin.Str.strSub (S l) i j = S ((l.take j).drop i) := by
  show Str.mk ((S l).cps.extract i j) = _
  have : ((S l).cps.extract i j).toList = (l.take j).drop i := by
    simp [S, List.drop_take]
  rw [← S_cps (Str.mk _)]
  rw [this]
theorem goes_eq (g : Nat) : (S [g]).cps.contains = fun c => c == g := by
  funext c
  rw [Bool.eq_iff_iff]
  simp [S]
theorem tw_all {g : Nat} {l : List Nat} (h : ∀ x ∈ l, x = g) : l.takeWhile (fun c => c == g) = l := by
  induction l with
  | nil => rfl
  | cons x l ih =>
    have hx := h x List.mem_cons_self
    subst hx
    simp [List.takeWhile_cons, ih fun y hy => h y (List.mem_cons_of_mem _ hy)]
theorem tw_mem {g : Nat} : ∀ {l : List Nat}, ∀ x ∈ l.takeWhile (fun c => c == g), x = g
  | y :: l, x, h => by
    rw [List.takeWhile_cons] at h
    split at h
    · rename_i hy
      rcases List.mem_cons.mp h with rfl | h
      · simpa using hy
      · exact tw_mem x h
    · cases h
theorem eq_rep {g : Nat} {l : List Nat} (h : ∀ x ∈ l, x = g) : l = List.replicate l.length g := List.eq_replicate_iff.mpr ⟨rfl, h⟩
theorem dw_head {g : Nat} : ∀ {l : List Nat} {x : Nat} {r : List Nat}, l.dropWhile (fun c => c == g) = x :: r → x ≠ g
  | y :: l, x, r, h => by
    rw [List.dropWhile_cons] at h
    split at h
    · exact dw_head h
    · rename_i hy
      cases h
      simpa using hy
theorem rst_spec (l : List Nat) (g : Nat) : ∃ (kept : List Nat) (m : Nat), Txt.rstripChars (S l) (S [g]) = S kept ∧ l = kept ++ List.replicate m g ∧ (kept = [] ∨ ∃ k0 x, kept = k0 ++ [x] ∧ x ≠ g) := by
  have e : Txt.rstripChars (S l) (S [g]) = S (l.take (l.length - (l.reverse.takeWhile fun c => c == g).length)) := by
    unfold Txt.rstripChars
    rw [PySem.W.stripBy_eq, goes_eq]
    show Builtin.Str.strSub (S l) 0 ((S l).length - (((S l).cps.toList.drop 0).reverse.takeWhile _).length) = _
    rw [sub_S, S_toList, S_len, List.drop_zero, List.drop_zero]
  have h1 := List.takeWhile_append_dropWhile (p := fun c => c == g) (l := l.reverse)
  generalize ht : l.reverse.takeWhile (fun c => c == g) = t at *
  generalize hd : l.reverse.dropWhile (fun c => c == g) = d at *
  have h2 : l = d.reverse ++ t.reverse := by
    have := congrArg List.reverse h1
    rw [List.reverse_append, List.reverse_reverse] at this
    exact this.symm
  have ht2 : t.reverse = List.replicate t.length g := by
    have := eq_rep (l := t.reverse) (g := g) fun x hx => by
      rw [List.mem_reverse, ← ht] at hx
      exact tw_mem x hx
    rw [List.length_reverse] at this
    exact this
  have h3 : l.take (l.length - t.length) = d.reverse := by
    have : l.length - t.length = d.reverse.length := by
      rw [h2, List.length_append, List.length_reverse, List.length_reverse]
      omega
    rw [this, h2, List.take_left']
    rfl
  refine ⟨d.reverse, t.length, by rw [e, h3], by rw [← ht2]; exact h2, ?_⟩
  cases d with
  | nil => exact .inl rfl
  | cons x r => exact .inr ⟨r.reverse, x, by simp, dw_head hd⟩
theorem strip_nil (l : List Nat) (c : Nat) : Txt.stripChars (S l) (S [c]) = S [] ↔ ∀ x ∈ l, x = c := by
  have e : Txt.stripChars (S l) (S [c]) = S ((l.take (l.length - ((l.drop (l.takeWhile fun z => z == c).length).reverse.takeWhile fun z => z == c).length)).drop (l.takeWhile fun z => z == c).length) := by
    unfold Txt.stripChars
    rw [PySem.W.stripBy_eq, goes_eq]
    show Builtin.Str.strSub (S l) ((S l).cps.toList.takeWhile _).length ((S l).length - (((S l).cps.toList.drop ((S l).cps.toList.takeWhile _).length).reverse.takeWhile _).length) = _
    rw [sub_S, S_toList, S_len]
  rw [e, S_inj]
  constructor
  · intro h x hx
    have h1 := List.takeWhile_append_dropWhile (p := fun z => z == c) (l := l)
    generalize ht : l.takeWhile (fun z => z == c) = t at *
    generalize hd : l.dropWhile (fun z => z == c) = d at *
    have hdr : l.drop t.length = d := by rw [← h1, List.drop_left']; rfl
    rw [hdr] at h
    have hlen : l.length = t.length + d.length := by rw [← h1, List.length_append]
    cases d with
    | nil =>
      rw [List.append_nil] at h1
      rw [← h1, ← ht] at hx
      exact tw_mem x hx
    | cons y r =>
      exfalso
      have hy := dw_head hd
      have hlt : ((y :: r).reverse.takeWhile fun z => z == c).length < (y :: r).length := by
        have h5 := List.takeWhile_append_dropWhile (p := fun z => z == c) (l := (y :: r).reverse)
        have h6 := congrArg List.length h5
        rw [List.length_append, List.length_reverse] at h6
        by_cases hz : ((y :: r).reverse.dropWhile fun z => z == c).length = 0
        · have h7 := List.length_eq_zero_iff.mp hz
          rw [h7, List.append_nil] at h5
          have : y ∈ (y :: r).reverse := by simp
          rw [← h5] at this
          exact absurd (tw_mem y this) hy
        · omega
      have := congrArg List.length h
      rw [List.length_drop, List.length_take] at this
      simp only [List.length_nil] at this
      omega
  · intro h
    rw [tw_all h]
    exact List.drop_of_length_le (by rw [List.length_take]; omega)
theorem cut_init (l : List Nat) (x : Nat) : cutS (S (l ++ [x])) none (some (-1)) = S l := by
  unfold cutS
  rw [S_toList, S_len, HT.sIx_none, List.drop_zero, Nat.sub_zero]
  have e : HT.sIx (l ++ [x]).length (l ++ [x]).length (some (-1)) = l.length := by
    unfold HT.sIx
    simp only [List.length_append]
    rw [if_pos (by decide)]
    simp only [List.length_cons, List.length_nil]
    omega
  rw [e, List.take_left']
  · rfl
  · rfl
end U
/-! U7: promises of defs where nothing is being shown (no repr under way): for repr of lists and tuples -/
namespace U
open PySem PySem.Spec PyProof.Rows L2
/-- room for k calls, and no repr under way -/
structure RoomG (k : Nat) (A : Around) : Prop where
  r : Room k A
  g : A.guards = some []
theorem RoomG.mono {i j : Nat} {A : Around} (x : RoomG j A) (h : i ≤ j) : RoomG i A := ⟨x.r.mono h, x.g⟩
theorem RoomG.units {k : Nat} {A : Around} (x : RoomG k A) : A.units + 64 < cLine := x.r.units
structure FnG (P : Program) (w : World) (K : PySem.W.Frag) (mg : Str → Option Value) (base : Heap) (CX : CXT) (k : Nat) (f : Addr) (fd : FuncData) (ps : List Str) (sp : Sp) : Prop where
  len : ∀ (vs : List V) (H : Hp) (Q : VK) (E : XK), sp vs H Q E → vs.length = ps.length
  run : ∀ (A : Around) (fr : List Env) (s : Shared) (H : Hp) (args : Args) (us : List Value) (vs : List V) (Q : VK) (E : XK), RoomG k A → Env0 P w K mg base A fr s H → BindsTo s fd args (ps.zip us) → Vals vs us →
    sp vs H Q E → codeAny (model P w) A (.call (.ref f) args) (CR CX fr P w H s Q E) s
section
variable {P : Program} {w : World} {K : PySem.W.Frag} {mg : Str → Option Value} {base : Heap} {CX : CXT} {k : Nat} {f : Addr} {fd : FuncData} {ps : List Str} {sp : Sp}
/-- every promise holds there, too -/
theorem FnG.of (F : FnOk P w K mg base CX k f fd ps sp) : FnG P w K mg base CX k f fd ps sp :=
  ⟨F.len, fun A fr s H args us vs Q E r => F.run A fr s H args us vs Q E r.r⟩
/-- a def by its body -/
theorem funG_ok {x qual : Str} {st : Stmt} {N : List Str} (F : Fun K x qual st f fd) (Sc : FnScope N ps (defScope st)) (len : ∀ vs H Q E, sp vs H Q E → vs.length = ps.length)
    (body : ∀ (cdv : Value) (A : Around) (fr : List Env) (s : Shared) (H : Hp) (vs : List V) (Q : VK) (E : XK), RoomG k (A.deeper (envOfC qual (defScope st) s.heap.objs.size f cdv)) → sp vs H Q E →
      ∃ t, PSs (cxOf CX P w K mg base N qual (defScope st) f cdv A fr s H E) (defBody st) t ∧ t { nx := fun _ H' => Q .non H', rt := Q } (start N vs) H) :
    FnG P w K mg base CX (k + 1) f fd ps sp := by
  obtain ⟨oc, od, kV, doc, pm, an, cdv, ct, osl, rfl, look, code⟩ := F.ex
  refine ⟨len, fun A fr s H args us vs Q E rg e0 hb rel want => ?_⟩
  have hlen := len vs H Q E want
  have kept : ∀ b o, base.get? b = some o → s.heap.get? b = some o := fun b o e => (e0.bs b o e).1
  have KX : K.In s.heap := e0.mod.kin.keeps kept
  have slots : ∀ y ∈ ps.zip us, (defScope st).names.lookup y.1 = some .local ∨ ((defScope st).names.lookup y.1 = some .cell ∧ ((cellsFrom (s.heap.objs.size + 1) (defScope st).names []).lookup y.1).isSome = true) := by
    rintro ⟨n, v⟩ hy
    rcases Sc.par n (List.of_mem_zip hy).1 with q | q
    · left; exact q
    · right; exact ⟨q, PySem.W.cellsFrom_some _ _ _ (.inl q)⟩
  refine codeAny_call_function rg.r.depth (KX _ _ look) rfl Sc.co Sc.gen rfl (PySem.W.codeRec_of KX code) (hb _ _ _ _ ?_)
  refine wpAny_newFunctionEnv_cells Sc.kind slots ?_
  rintro env rfl s1 entered
  refine ⟨(e0.mod.nolimit.keeps kept).keeps entered.toInCall.keep, codeAny_func ?_⟩
  have deep : RoomG k (A.deeper (envOfC qual (defScope st) s.heap.objs.size f cdv)) := ⟨rg.r.deeper _, rg.g⟩
  obtain ⟨t, derived, reading⟩ := body cdv A fr s H vs Q E deep want
  have I := inv_start (CX := CX) (E := E) Sc rg.r.hd e0 hlen rel entered
  refine wpAny_mono (derived.run [] s1 (start N vs) H _ I reading) (fun fl s' after => ?_) fun e s' left => left
  cases fl with
  | brk => obtain ⟨_, _, _, no⟩ := after; exact no.elim
  | cont => obtain ⟨_, _, _, no⟩ := after; exact no.elim
  | ret u =>
    obtain ⟨v, σ', H', J, rv, q⟩ := after
    exact ⟨v, H', J.os, J.bare, J.base, J.hok, rv, q⟩
  | next =>
    obtain ⟨σ', H', J, q⟩ := after
    exact ⟨V.non, H', J.os, J.bare, J.base, J.hok, rfl, q⟩
/-- .. of which no exception leaves -/
theorem funG_ok0 {x qual : Str} {st : Stmt} {N : List Str} (F : Fun K x qual st f fd) (Sc : FnScope N ps (defScope st)) (len : ∀ vs H Q E, sp vs H Q E → vs.length = ps.length)
    (body : ∀ (cdv : Value) (A : Around) (fr : List Env) (s : Shared) (H : Hp) (vs : List V) (Q : VK) (E : XK), RoomG k (A.deeper (envOfC qual (defScope st) s.heap.objs.size f cdv)) → sp vs H Q E →
      ∃ t, PSs (cxOf CX0 P w K mg base N qual (defScope st) f cdv A fr s H E).nox (defBody st) t ∧ t { nx := fun _ H' => Q .non H', rt := Q } (start N vs) H) :
    FnG P w K mg base CX0 (k + 1) f fd ps sp :=
  funG_ok F Sc len fun cdv A fr s H vs Q E r h => by
    obtain ⟨t, d, q⟩ := body cdv A fr s H vs Q E r h
    exact ⟨t, d.nox, q⟩
end
section
variable {X : Cx} {CX : CXT} {k : Nat} {f : Addr} {fd : FuncData} {ps : List Str} {sp : Sp} {dvs : List V} {ds : List Value} {E : XK} {x : Str} {p pos : Pos} {e : Expr} {es : List Expr} {t : TA}
theorem run_fnG {pins : List (Addr × Obj)} {σ : L2.St} {H : Hp} {s : Shared} {Q : VK} {us : List Value} {vs : List V} (F : FnG X.prog X.w X.K X.mg X.base CX k f fd ps sp) (hr : RoomG k X.A) (hb : Binds X.K fd ps ds) (hd : Vals dvs ds)
    (hx : Passes CX X E) (I : Inv X pins σ H s) (r : Vals vs us) (h : sp (vs ++ dvs) H Q E) : wpAny (model X.prog X.w) X.A (call (.ref f) us) (EP X pins σ Q) X.xe s := by
  have both : Vals (vs ++ dvs) (us ++ ds) := r.append hd
  have num : (us ++ ds).length = ps.length := both.length.symm.trans (F.len _ _ _ _ h)
  refine wpAny_call (codeAny_mono (F.run X.A X.stack s H ⟨us, []⟩ (us ++ ds) (vs ++ dvs) Q E hr I.env0 (hb s us I.kIn num) both h) ?_)
  intro res s' after
  match res, after with
  | .error err, after => exact hx pins σ H s err s' I after
  | .ok (.ret u), after => exact I.after after
  | .ok .next, after => exact False.elim after
  | .ok .brk, after => exact False.elim after
  | .ok .cont, after => exact False.elim after
/-- f(e, ..) -/
theorem pe_callG (F : FnG X.prog X.w X.K X.mg X.base CX k f fd ps sp) (hr : RoomG k X.A) (hg : Gl X x) (hm : X.mg x = some (.ref f)) (hk : PySem.W.keepIn X.K (.ref f) = true) (hb : Binds X.K fd ps ds) (hd : Vals dvs ds) (hx : Passes CX X E)
    (ha : PA X (e :: es) t) (hdb : (x == ("__debug__" : Str)) = false := by decide) (he : starEach (e :: es) X.env = (false, eval e X.env) :: starEach es X.env := by rfl) (hpl : (backTo pos (starEach es X.env)).any (·.1) = false := by rfl) :
    PE X (.Call (.Name x p) (e :: es) [] pos) (tCall sp dvs E t) := by
  constructor
  intro pins s σ H Q I h
  refine wpAny_Call_Name_kw (ld_glob I hg hm ?_ hdb)
  refine PySem.W.callWith_K (h₀ := X.base) I.ok.mod.kin hk ?_ he hpl
  refine thn (ha.run pos pins s σ H _ I h) ?_
  rintro us s1 ⟨vs, H1, I1, r, q⟩
  exact ⟨I1.kIn, run_fnG F hr hb hd hx I1 r q⟩
/-- repr of data -/
theorem call_reprD (hg : X.A.guards = some []) (hu : X.A.units + 64 < cLine) : CallR X (.builtin "repr") (fun xs H Q => ∃ (v : V) (d : PyData), xs = [v] ∧ Dp X.K H v d ∧ d.showable = true ∧ d.hasDict = false ∧ d.depth ≤ 50 ∧ d.shown.length ≤ sizeLine ∧ Q (.str d.shown) H) := by
  intro pins s σ H xs us Q I r h
  obtain ⟨v, d, rfl, dp, hs, hn, hd, hz, q⟩ := h
  obtain ⟨u, rfl, rx⟩ := vals1 r
  obtain ⟨as, rd⟩ := Dp.reads I d v u dp rx
  cases dp with
  | non =>
    cases rx
    exact PySem.P.repr_of_none ⟨.str _, H, I.tok _, ⟨_, rfl⟩, q⟩
  | bl b =>
    cases rx
    exact PySem.P.repr_of_bool ⟨.str _, H, I.tok _, ⟨_, by cases b <;> rfl⟩, q⟩
  | int i =>
    obtain ⟨t, rfl⟩ := rx
    exact PySem.P.repr_of_int (by simpa [PyData.showable] using hs) ⟨.str _, H, I.tok _, ⟨_, rfl⟩, q⟩
  | str x =>
    obtain ⟨t, rfl⟩ := rx
    exact PySem.P.repr_of_str ⟨.str _, H, I.tok _, ⟨_, rfl⟩, q⟩ hz
  | lst h1 h2 =>
    obtain rfl : u = Value.ref _ := rx
    exact repr_of_reads' rd hs (fun z => by rw [hn] at z; cases z) hg (by omega) (fun _ _ e => e) (fun h' t tk kp => ⟨.str _, H, I.kept kp, ⟨_, rfl⟩, q⟩) hz
  | tup h1 h2 =>
    obtain rfl : u = Value.ref _ := rx
    exact repr_of_reads' rd hs (fun z => by rw [hn] at z; cases z) hg (by omega) (fun _ _ e => e) (fun h' t tk kp => ⟨.str _, H, I.kept kp, ⟨_, rfl⟩, q⟩) hz
end
/-! ### the law's own call -/
section
variable {P : Program} {w : World} {K : PySem.W.Frag} {mg mb : Str → Option Value} {CX : CXT} {k : Nat} {fa a : Addr} {fd : FuncData} {x : Str} {sp : Sp} {st : Shared} {vs : List Value} {ns : List Int}
/-- over an abstract heap that tells of the script alone -/
theorem law_core (KX : K.In st.heap) (glo : st.heap.Ns mainGlobals mg) (blt : st.heap.Ns builtinsNs mb) (bt : ∀ x : Str, x ≠ "__name__" → mb x = bootBuiltins x) (lim : st.heap.NoLimit) (gn : st.gens = #[])
    (obj : st.heap.get? a = some { cls := .type "list", data := .seq vs.toArray }) (room : Room k callerA)
    (F : ∀ base : Heap, K.In base → base.Ns mainGlobals mg → FnG P w K mg base CX k fa fd [x] sp) (bind : ∀ (s : Shared) (u : Value), BindsTo s fd ⟨[u], []⟩ [(x, u)])
    (hCX : ∀ H e s', CX [] H st (fun _ _ _ => False) e s' → False) (H : Hp) (only : Only H) (want : sp [.ref a] H (fun v _ => v = .bl true) fun _ _ _ => False) (hok : HOk P w H st.heap)
    (just : ∀ b, H b ≠ none → b = a) (free : H a ≠ none → K.lookup a = none) :
    codeAny (model P w) callerA (.call (.ref fa) ⟨[.ref a], []⟩) (fun r s' => r = .ok (.ret (.bool true)) ∧ OldK st.heap s'.heap ∧ s'.os = st.os ∧ AllBare s'.gens) st := by
  have split : ∀ b, H b = none ∨ b = a := fun b => by
    by_cases z : H b = none
    · left; exact z
    · right; exact just b z
  have dicts : ∀ {b : Addr} {m : Str → Option Value}, st.heap.Ns b m → (hidT st.heap H).Ns b m := by
    rintro b m ⟨o, es, ep, e, d, r⟩
    refine ⟨o, es, ep, hidT_get e ?_, d, r⟩
    rcases split b with z | z
    · exact z
    · exfalso
      rw [z, obj] at e
      cases e
      cases (show Data.seq vs.toArray _ = Data.dict es ep from d)
  have own : K.In (hidT st.heap H) := by
    intro b o e
    refine hidT_get (KX b o e) ?_
    rcases split b with z | z
    · exact z
    · by_cases n : H b = none
      · exact n
      · rw [z] at n e
        rw [free n] at e
        cases e
  have mod : Mod K mg (hidT st.heap H) := by
    obtain ⟨mc, h1, h2⟩ := lim
    exact ⟨own, dicts glo, ⟨mb, dicts blt, bt⟩, ⟨mc, dicts h1, h2⟩⟩
  have e0 : Env0 P w K mg (hidT st.heap H) callerA [] st H := by
    refine ⟨rfl, mod, fun b o e => of_hidT e, Nat.le_of_eq (hidT_size _ _), trivial, ?_, hok, .of_eq gn⟩
    intro b hb
    cases (show b ∈ ([] : List Addr) from hb)
  have ran := (F _ own (dicts glo)).run callerA [] st H ⟨[.ref a], []⟩ [.ref a] [.ref a] _ _ ⟨room, rfl⟩ e0 (bind st (.ref a)) (.cons rfl .nil) want
  refine codeAny_mono ran ?_
  intro res s' after
  match res, after with
  | .error err, after => exact (hCX H err s' after).elim
  | .ok .next, after => exact False.elim after
  | .ok .brk, after => exact False.elim after
  | .ok .cont, after => exact False.elim after
  | .ok (.ret u), after =>
    obtain ⟨v, H', os, bare, un, hok', rel, isT⟩ := after
    have isT : v = .bl true := isT
    subst isT
    obtain rfl : u = Value.bool true := rel
    refine ⟨rfl, OldK.of_keep ?_, os, bare⟩
    intro b o e
    rcases only b with z | ⟨ob, xs, z⟩
    · refine un.keep b o e z ?_ (by simp)
      intro no
      cases (show b ∈ ([] : List Addr) from no)
    · have now := (hok' b _ (un.frzs b ob _ z)).1
      have was := (hok b _ z).1
      rw [e] at was
      cases was
      exact now
theorem law_callG (KX : K.In st.heap) (glo : st.heap.Ns mainGlobals mg) (blt : st.heap.Ns builtinsNs mb) (bt : ∀ x : Str, x ≠ "__name__" → mb x = bootBuiltins x) (lim : st.heap.NoLimit) (gn : st.gens = #[])
    (obj : st.heap.get? a = some { cls := .type "list", data := .seq vs.toArray }) (hint : IntsAre vs ns) (few : ns.length ≤ sizeLine) (room : Room k callerA)
    (F : ∀ base : Heap, K.In base → base.Ns mainGlobals mg → FnG P w K mg base CX k fa fd [x] sp) (bind : ∀ (s : Shared) (u : Value), BindsTo s fd ⟨[u], []⟩ [(x, u)])
    (want : ∀ H : Hp, Only H → SqL K H a (ns.map V.int) → sp [.ref a] H (fun v _ => v = .bl true) fun _ _ _ => False) (hCX : ∀ H e s', CX [] H st (fun _ _ _ => False) e s' → False) :
    codeAny (model P w) callerA (.call (.ref fa) ⟨[.ref a], []⟩) (fun r s' => r = .ok (.ret (.bool true)) ∧ OldK st.heap s'.heap ∧ s'.os = st.os ∧ AllBare s'.gens) st := by
  have go := law_core (sp := sp) KX glo blt bt lim gn obj room F bind hCX
  have rel := vals_ints hint
  have num := hint.length
  by_cases known : K.lookup a = none
  · let obA : Obj := { cls := .type "list", data := .seq vs.toArray }
    let HH : Hp := fun b => if b = a then some (.frz obA (.lst (ns.map V.int))) else none
    have at1 : HH a = some (.frz obA (.lst (ns.map V.int))) := if_pos rfl
    have at2 : ∀ b, b ≠ a → HH b = none := fun b n => if_neg n
    have only : Only HH := fun b => by
      by_cases z : b = a
      · right; exact ⟨obA, ns.map V.int, by rw [z]; exact at1⟩
      · left; exact at2 b z
    refine go HH only (want HH only (.inl (.inr ⟨obA, at1⟩))) ?_ ?_ (fun _ => known)
    · intro b o e
      by_cases z : b = a
      · subst z
        rw [at1] at e
        cases e
        exact ⟨obj, by rw [List.length_map]; exact few, vs, _, rel, obj⟩
      · rw [at2 b z] at e
        cases e
    · intro b n
      by_cases z : b = a
      · exact z
      · exact absurd (at2 b z) n
  · obtain ⟨o, known⟩ := Option.ne_none_iff_exists'.mp known
    have e := KX a o known
    rw [obj] at e
    cases e
    have none_only : Only fun _ => none := fun _ => .inl rfl
    refine go (fun _ => none) none_only (want _ none_only (.inr ⟨_, vs.toArray, _, known, rfl, rfl, rfl, by rw [List.size_toArray, num]; exact few, by simpa using rel⟩)) ?_ (fun b n => absurd rfl n) (fun n => absurd rfl n)
    intro b o e
    cases (show (none : Option HO) = some o from e)
end
theorem walk_ofG {l : PySem.W.OpenLaw} {n k : Nat} {q : Program} {loose : List Str} {XP : (Str → Option Value) → Heap → Prop} {YP : World → Heap → Prop} {d : DefRec} {K : Params → PySem.W.Frag} {CX : World → CXT} {sp : World → Sp} {x : Str}
    (most : l.most = some n) (fits : n ≤ sizeLine) (plain : d.params.defaults = []) (room : Room k callerA) (hY : ∀ (w : World) (h : Heap), YP w h → (K w.params).In h)
    (F : ∀ (w : World) (mg : Str → Option Value) (fa : Addr) (h : Heap), (K w.params).In h → h.Ns mainGlobals mg → mg d.name = some (.ref fa) → ∃ fd : FuncData, (∀ (s : Shared) (u : Value), BindsTo s fd ⟨[u], []⟩ [(x, u)]) ∧
      ∀ base : Heap, (K w.params).In base → base.Ns mainGlobals mg → FnG l.prog w (K w.params) mg base (CX w) k fa fd [x] (sp w))
    (want : ∀ (w : World) (H : Hp) (a : Addr) (ns : List Int), ns.length ≤ n → Only H → SqL (K w.params) H a (ns.map V.int) → sp w [.ref a] H (fun v _ => v = .bl true) fun _ _ _ => False)
    (hCX : ∀ (w : World) (H : Hp) (s : Shared) (e : Value) (s' : Shared), CX w [] H s (fun _ _ _ => False) e s' → False) : PySem.W.WalkO q loose XP YP l.row.toRowW d [] (fun f vs => PySem.call f vs) := by
  refine Att.attach_call most plain ?_
  intro w s₀ s₁ mg mb fa o pm cd doc a vs ns G Y ho hd hcd hmg hobj hints hlen hg
  have KX := hY w _ Y
  obtain ⟨fd, hb, hF⟩ := F w mg fa _ KX G.T.g hmg
  refine law_callG KX G.T.g G.T.b G.T.builtins G.T.nolimit hg hobj hints (Nat.le_trans hlen fits) room hF hb ?_ (fun H => hCX w H s₁)
  exact fun H hO hS => want w H a ns hlen hO hS
end U
/-! U8: enumerate(text) -/
namespace U
open PySem PySem.Spec PyProof.Rows L2
def IteS (l : List Nat) : It :=
  ⟨fun i _ => i < l.length, fun i H v H' => ∃ T c, v = .ref T ∧ H T = none ∧ H' = upd H T (.tup [.int (i : Nat), .str (S [c])]) ∧ l[i]? = some c, fun i _ => l.length ≤ i⟩
theorem turn_enumS {P : Program} {w : World} {K : PySem.W.Frag} {elts : List Expr} {kk : Nat} {tpos : Pos} (l : List Nat) (t : Tok) (e it : Addr) (ty : String)
    (D : ∀ A : Around, A.handled = none → Draws P w A it [it] (S l).cps.size (fun i v => ∃ c u, (S l).cps[i]? = some c ∧ v = .str ⟨#[c]⟩ u) (fun i h => h.IsStrIter it ty (S l) t i)) :
    Turn P w K (.Tuple elts kk tpos) (IteS l) [e, it] e (fun i h => (∃ old, IsEnum h e it ((i : Nat) : Int) old) ∧ h.IsStrIter it ty (S l) t i ∧ e ≠ it ∧ i ≤ l.length) := by
  have sz : (S l).cps.size = l.length := S_len l
  refine ⟨by simp, ?_, ?_, ?_, ?_, ?_⟩
  · rintro i h ⟨⟨old, he⟩, ⟨o, ho, _, hd⟩, _, _⟩ b hb
    rcases (by simpa using hb : b = e ∨ b = it) with rfl | rfl
    · exact ⟨_, he, fun v q => nomatch q⟩
    · exact ⟨o, ho, fun v q => by rw [hd] at q; cases q⟩
  · rintro i h h' ⟨⟨old, he⟩, ⟨o, ho, r⟩, ne, le⟩ k
    exact ⟨⟨old, k e (by simp) _ he⟩, ⟨o, k it (by simp) o ho, r⟩, ne, le⟩
  · intro X hP hw hK hc i pins s σ H E I hf st hg
    subst hP hw hK
    obtain ⟨⟨old, he⟩, hit, ne, le⟩ := st
    have hlt : i < (S l).cps.size := by rw [sz]; exact hg
    have hel : e < s.heap.objs.size := Heap.lt_size he
    have hil : it < s.heap.objs.size := by obtain ⟨_, q, _⟩ := hit; exact Heap.lt_size q
    refine wpAny_pyNext_enum_itemD (D X.A.in1 (I.ok.hd hc)) he hit hlt ne (by simpa using ne) ?_
    rintro y h' tk ⟨c, u, hcc, rfl⟩ out hit' hT hsz hk
    refine ⟨_, rfl, wpAny_letOwnedTupleGo_enum (s := { s with heap := h', toks := tk + 1 }) out ?_⟩
    intro h'' he' sb
    have hT2 : h''.get? s.heap.objs.size = some { cls := .type "tuple", data := .seq #[.int i tk, .str ⟨#[c]⟩ u] } := (sb.2 _ (Nat.ne_of_gt hel)).trans hT
    have new : ObjOk X.prog X.w (upd H s.heap.objs.size (.tup [.int (i : Nat), .str (S [c])])) h'' s.heap.objs.size (.tup [.int (i : Nat), .str (S [c])]) :=
      ⟨by show 2 ≤ sizeLine; decide, [.int i tk, .str ⟨#[c]⟩ u], .cons ⟨_, rfl⟩ (.cons ⟨_, rfl⟩ .nil), ⟨_, hT2, rfl, _, rfl⟩⟩
    have rest : ∀ b ob, b ∉ [e, it] → s.heap.get? b = some ob → h''.get? b = some ob := fun b ob hb q => by
      have h1 : b ≠ e := fun z => hb (by simp [z])
      have h2 : b ≠ it := fun z => hb (by simp [z])
      exact (sb.2 b h1).trans (hk b ob h1 h2 q)
    have I1 := I.turnedNew (t' := tk + 1) (ch := [e, it]) rest hf (Nat.le_refl _) new
    refine ⟨.ref s.heap.objs.size, _, I1, rfl, ⟨_, c, rfl, I.hok.fresh (Nat.le_refl _), rfl, ?_⟩, ⟨⟨.str ⟨#[c]⟩ u, ?_⟩, ?_, ne, ?_⟩, ?_⟩
    · have : (S l).cps[i]? = some c := hcc
      simpa [S] using this
    · have e1 : ((i + 1 : Nat) : Int) = (i : Int) + 1 := by omega
      rw [e1]
      exact he'
    · obtain ⟨o, ho, r⟩ := hit'
      exact ⟨o, (sb.2 it (Ne.symm ne)).trans ho, r⟩
    · show i + 1 ≤ l.length
      have : i < l.length := hg
      omega
    · intro b hb
      have hb' : b < s.heap.objs.size := by
        rcases (by simpa using hb : b = e ∨ b = it) with rfl | rfl
        · exact hel
        · exact hil
      rw [upd_ne (Nat.ne_of_lt hb')]
      exact (hf b hb).1
  · intro X hP hw hK hc i pins s σ H E I hf st hg
    subst hP hw hK
    obtain ⟨⟨old, he⟩, hit, ne, le⟩ := st
    have hg : l.length ≤ i := hg
    have ei : i = (S l).cps.size := by omega
    rw [ei] at hit
    obtain ⟨f0, f1, f2, f3, f4, f5⟩ := hf it (by simp)
    refine wpAny_pyNext_enum_endD (D X.A.in1 (I.ok.hd hc)) he hit fun h' eb => ⟨rfl, ?_⟩
    exact I.turned (t' := s.toks) (fun b o hb q => eb b o hb q) f0 f1 f3 f4 f5
  · rintro A i s Q E ⟨⟨_, he⟩, _⟩ h
    exact wpAny_pyIter_enum he h
def iEnumS (ta : TA) : TI := fun σ H R => ta σ H fun vs H1 => ∃ l : List Nat, vs = [.str (S l)] ∧ R (IteS l) H1
theorem pi_enumS {X : Cx} {e : Expr} {ta : TA} {p pos tpos : Pos} {elts : List Expr} {kk : Nat} (hg : Gl X "enumerate") (hm : X.mg "enumerate" = none) (ha : PA X [e] ta) (hs : starEach [e] X.env = [(false, eval e X.env)] := by rfl) :
    PI X (.Tuple elts kk tpos) (.Call (.Name "enumerate" p) [e] [] pos) (iEnumS ta) := by
  constructor
  intro pins s σ H R I h
  refine Call_ (ld_blt I hg hm boot_enumerate (PyProof.Rows.callWith_type1 (thn (ha.run pos pins s σ H _ I h) ?_) hs rfl))
  rintro us s1 ⟨vs, H1, I1, r1, l, rfl, q⟩
  cases r1 with
  | cons r rr =>
    cases rr
    obtain ⟨t, rfl⟩ := r
    refine call_enumerate_str fun h' he hit hsz hk => wpAny_pyIter_enum he ?_
    have I2 : Inv X pins σ H1 { s1 with heap := h' } := I1.kept (t' := s1.toks) hk
    have D : ∀ A : Around, A.handled = none → Draws X.prog X.w A s1.heap.objs.size [s1.heap.objs.size] (S l).cps.size (fun i v => ∃ c u, (S l).cps[i]? = some c ∧ v = .str ⟨#[c]⟩ u) (fun i h => h.IsStrIter s1.heap.objs.size (strIterType (S l)) (S l) t i) := by
      intro A hh
      unfold strIterType
      split
      · exact Draws.strAscii hh _ _ _
      · exact Draws.strWide hh _ _ _
    refine ⟨s1.heap.objs.size + 1, [s1.heap.objs.size + 1, s1.heap.objs.size], _, _, H1, rfl, I2, turn_enumS l t (s1.heap.objs.size + 1) s1.heap.objs.size _ D, ⟨⟨.none, he⟩, hit, Nat.succ_ne_self _, Nat.zero_le _⟩, ?_, q⟩
    intro b hb
    have hle : s1.heap.objs.size ≤ b := by
      rcases (by simpa using hb : b = s1.heap.objs.size + 1 ∨ b = s1.heap.objs.size) with rfl | rfl
      · omega
      · exact Nat.le_refl _
    exact I1.fpOk hle (I1.hok.fresh hle)
/-- as a walk: at each turn a new pair -/
theorem walk_enumS (l : List Nat) : Walk (IteS l) l.length (fun _ => True) (fun i H v H' => ∃ T c, v = .ref T ∧ H T = none ∧ H' = upd H T (.tup [.int (i : Nat), .str (S [c])]) ∧ l[i]? = some c) :=
  ⟨fun i H hi _ => hi, fun H _ => Nat.le_refl _, fun i H x H' hi _ hy => hy⟩
/-! ### data that are shown: small ones -/
structure Sm (d : PyData) (n k : Nat) : Prop where
  sh : d.showable = true
  nd : d.hasDict = false
  dp : d.depth ≤ k
  ln : d.shown.length ≤ n
structure SmAll (ds : List PyData) (n k : Nat) : Prop where
  sh : PyData.showableAll ds = true
  nd : PyData.hasDictAll ds = false
  dp : PyData.depthAll ds ≤ k
  ln : ((PyData.shownAll ds).map (·.length)).sum + 2 * ds.length ≤ n
theorem Sm.non : Sm .none 4 0 := ⟨rfl, rfl, Nat.le_refl _, by decide⟩
theorem Sm.bl (b : Bool) : Sm (.bool b) 5 0 := ⟨rfl, rfl, Nat.le_refl _, by cases b <;> decide⟩
theorem Sm.int {i : Int} (h : i.natAbs < 10 ^ 12) : Sm (.int i) 13 0 := by
  refine ⟨?_, rfl, Nat.le_refl _, PyData.shown_int_le h⟩
  simp only [PyData.showable, decide_eq_true_eq]
  exact lg (Nat.lt_trans h (by decide))
theorem Sm.str {l : List Nat} (h : ∀ c ∈ l, c < 1114112) : Sm (.str (S l)) (10 * l.length + 2) 0 := by
  refine ⟨rfl, rfl, Nat.le_refl _, ?_⟩
  have e := PySem.StrLaws.reprText_len (S l) (fun c hc => by
    rw [S_toList] at hc
    exact Nat.lt_trans (h c hc) (by decide))
  rw [S_len] at e
  show (reprText (S l)).length ≤ _
  omega
theorem SmAll.nil {k : Nat} : SmAll [] 0 k := ⟨rfl, rfl, Nat.zero_le _, Nat.le_refl _⟩
theorem SmAll.cons {d : PyData} {ds : List PyData} {m n k k' : Nat} (a : Sm d m k') (b : SmAll ds n k) (h : k' ≤ k) : SmAll (d :: ds) (m + n + 2) k := by
  refine ⟨?_, ?_, ?_, ?_⟩
  · simp only [PyData.showableAll, a.sh, b.sh, Bool.and_self]
  · simp only [PyData.hasDictAll, a.nd, b.nd, Bool.or_self]
  · simp only [PyData.depthAll]
    have := a.dp
    have := b.dp
    omega
  · simp only [PyData.shownAll, List.map_cons, List.sum_cons, List.length_cons]
    have := a.ln
    have := b.ln
    omega
theorem Sm.tup {ds : List PyData} {n k : Nat} (a : SmAll ds n k) : Sm (.tuple ds) (n + 3) (k + 1) := by
  refine ⟨a.sh, a.nd, ?_, ?_⟩
  · simp only [PyData.depth]
    have := a.dp
    omega
  · have h1 := tupleText_len_le (PyData.shownAll ds)
    rw [PyData.shownAll_length] at h1
    have := a.ln
    simp only [PyData.shown]
    omega
theorem Sm.lst {ds : List PyData} {n k : Nat} (a : SmAll ds n k) : Sm (.list ds) (n + 3) (k + 1) := by
  refine ⟨a.sh, a.nd, ?_, ?_⟩
  · simp only [PyData.depth]
    have := a.dp
    omega
  · have h1 := listText_len_le (PyData.shownAll ds)
    rw [PyData.shownAll_length] at h1
    have := a.ln
    simp only [PyData.shown]
    omega
theorem call_reprS {X : Cx} (hg : X.A.guards = some []) (hu : X.A.units + 64 < cLine) : CallR X (.builtin "repr") (fun xs H Q => ∃ (v : V) (d : PyData) (n k : Nat), xs = [v] ∧ Dp X.K H v d ∧ Sm d n k ∧ n ≤ 1000000 ∧ k ≤ 50 ∧ Q (.str d.shown) H) := by
  intro pins s σ H xs us Q I r h
  obtain ⟨v, d, n, k, e, dp, sm, hn, hk, q⟩ := h
  refine call_reprD hg hu pins s σ H xs us Q I r ⟨v, d, e, dp, sm.sh, sm.nd, Nat.le_trans sm.dp hk, ?_, q⟩
  have := sm.ln
  rw [sizeLine_eq]
  omega
theorem signs_small {c : Nat} (h : c ∈ signs) : c < 1114112 := by
  have key : ∀ c ∈ signs, c < 1114112 := by rw [signs_eq]; decide
  exact key c h
end U
/-! E0: own exceptions over ValueError and KeyError: the call of such a class, from the pieces that its making asks -/
namespace U
open PySem
abbrev keTail : List Value := [.type "KeyError", .type "LookupError", .type "Exception", .type "BaseException", .type "object"]
abbrev veTl : List Value := [.type "ValueError", .type "Exception", .type "BaseException", .type "object"]
/-- what the built-in __init__ of the base B asks -/
structure IniF (B initId : String) : Prop where
  init : Slot B "__init__" initId
  entry : entryFor table initId = some Builtin.«BaseException.__init__»
  kind : builtinKind initId = some .slot
  row : Manifest.signature? initId = some ⟨.positional, "*", B, .self, [⟨"args", .varPos, false⟩]⟩
  noStar : (B != "*") = true
  kxs : PySem.W.KxsFacts B initId
theorem ini_KeyError : IniF "KeyError" "KeyError.__init__" where
  init := .of (owner := "KeyError") (n := "__init__") (by rw [typeLookup_type, builtinLookup_eq_fast]; kernel_rfl) (by decide +kernel) (by decide +kernel) (by decide +kernel)
    (by first | exact .inl (by decide +kernel) | exact .inr (by decide +kernel)) (by rw [isSubtype_type]; kernel_rfl)
  entry := entryFor_alias (id' := "BaseException.__init__") (by rw [fastTable_eq_tree]; kernel_rfl) (by first | rfl | decide +kernel) (by decide +kernel) (by rw [fastTable_eq_tree]; kernel_rfl)
  kind := by kernel_rfl
  row := by kernel_rfl
  noStar := by decide +kernel
  kxs := ⟨by show builtinType _ = _; rw [builtinType_eq_fast]; kernel_rfl, by first | kernel_rfl | rfl⟩
theorem ini_ValueError : IniF "ValueError" "ValueError.__init__" :=
  ⟨F.excCall_ValueError.init, F.excCall_ValueError.initEntry, F.excCall_ValueError.initKind, F.excCall_ValueError.initRow, F.excCall_ValueError.noStar, PySem.W.kxs_ValueError⟩
theorem store_KeyError : StoreFacts "KeyError" keTail "object.__setattr__" "object" where
  mro := by kernel_rfl
  slot := .of (owner := "object") (n := "__setattr__") (by rw [typeLookup_type, builtinLookup_eq_fast]; kernel_rfl) (by decide +kernel) (by decide +kernel) (by decide +kernel)
    (by first | exact .inl (by decide +kernel) | exact .inr (by decide +kernel)) (by rw [isSubtype_type]; kernel_rfl)
  entry := PySem.F.store_object.entry
  kind := by decide +kernel
  split := by decide +kernel
  hasOwner := by decide +kernel
  args := fun a b c => by unfold argsOk; kernel_rfl
  passes := fun self => by kernel_rfl
/-- which classes stand above: asked of the built-in __new__ of the base B -/
structure Abv (B : String) (bm : List Value) : Prop where
  hasB : bm.contains (.type B) = true
  noAttr : bm.contains (.type "AttributeError") = false
  noName : bm.contains (.type "NameError") = false
section
variable {M : Model} {A : Around} {E : Value → Shared → Prop} {h : Heap} {g : Array GenState} {d : Drawn} {t : Nat} {os : OsState}
variable {nm q : Str} {C N : Addr} {bs bm bmB : List Value} {hdct : Bool} {sn : List Str} {sub : List Value} {ab : Bool} {col : Option Bool} {dd : Option Addr} {k0 k1 k2 k3 k5 : Option Value} {B newId initId : String}
theorem chk_new (F : ExcBaseFacts B newId initId bmB) (hT : Abv B bm) {rest : List Value} {Q : Unit → Shared → Prop}
    (hC : h.get? C = some (excClassObj nm q C N bs bm hdct sn sub ab col dd k0 k1 k2 k3 k5 newId)) (hq : Q () ⟨h, g, d, t, os⟩) : wpAny M A (checkBuiltinCall newId ⟨.ref C :: rest, []⟩) Q E ⟨h, g, d, t, os⟩ := by
  have hcont : (Value.ref C :: bm).contains (.type B) = true := by rw [List.contains_cons, hT.hasB, Bool.or_true]
  have hstar := F.noStar
  simp only [checkBuiltinCall, F.newKind, F.newSplit, F.newRow]
  repeat (first | refine wpAny_loadPart_at hC ?_ | (refine wpAny_isSubtype_exc hC ?_; rw [hcont]) | refine wpAny_staticBase_exc hC ?_ | refine wpAny_madeBy_exc hC ?_ | simp only [bne_self_eq_false, Bool.false_eq_true, if_false] | wp_step)
  exact hq
end
section
variable {prog : Program} {w : World} {A : Around} {E : Value → Shared → Prop} {R : Result → Shared → Prop} {h : Heap} {g : Array GenState} {d : Drawn} {t : Nat} {os : OsState}
variable {nm q : Str} {C N : Addr} {bs bm bmB : List Value} {hdct : Bool} {sn : List Str} {sub : List Value} {ab : Bool} {col : Option Bool} {dd : Option Addr} {k0 k1 k2 k3 k5 : Option Value} {B newId initId : String}
theorem new_run (F : ExcBaseFacts B newId initId bmB) (hT : Abv B bm) {rest : List Value}
    (hC : h.get? C = some (excClassObj nm q C N bs bm hdct sn sub ab col dd k0 k1 k2 k3 k5 newId))
    (hq : R (.ok (.ret (.ref (h.objs.size + 1)))) ⟨(h.push { cls := .type "tuple", data := .seq rest.toArray }).push
      { cls := .ref C, data := .fields #[.ref h.objs.size, .none, .none, .none, .bool false, .none] }, g, d, t, os⟩) (hrest : rest.length ≤ sizeLine) :
    codeAny (model prog w) A (.builtin newId ⟨.ref C :: rest, []⟩) R ⟨h, g, d, t, os⟩ := by
  have hends := F.ends
  have hcB : (Value.ref C :: bm).contains (.type B) = true := by rw [List.contains_cons, hT.hasB, Bool.or_true]
  have hcA : (Value.ref C :: bm).contains (.type "AttributeError") = false := by rw [List.contains_cons, hT.noAttr]; rfl
  have hcN : (Value.ref C :: bm).contains (.type "NameError") = false := by rw [List.contains_cons, hT.noName]; rfl
  refine codeAny_builtinAt F.entry ?_
  unfold Builtin.«BaseException.__new__»
  refine wpAt_bind ?_
  show wpAt _ _ _ (stack >>= _) _ _ _
  refine wpAt_bind (wpAt_stack fun p below => wpAt_of_wpAny ?_)
  wp_walk
  refine wpAt_of_wpAny ?_
  rw [F.owner]
  repeat (first | with_reducible refine wpAny_madeHere_exc F.canon hC ?_ | with_reducible refine wpAny_loadPart_at hC ?_ | (with_reducible refine wpAny_isSubtype_exc hC ?_; first | rw [hcB] | rw [hcA] | rw [hcN]) | wp_step)
  show R _ _
  rw [Heap.size_push]
  exact hq
theorem tcall_run (F : ExcBaseFacts B newId initId bmB) (hT : Abv B bm) {rest : List Value} {fI : Addr} {Q : Fin → Shared → Prop}
    (hC : h.get? C = some (excClassObj nm q C N bs bm hdct sn sub ab col dd k0 k1 k2 k3 k5 newId))
    (hi : W.Looks (model prog w) h (typeLookup (.ref C) "__init__") (some (.ref fI))) (hb : ∀ self, W.Looks (model prog w) h (bindSpecial (.ref fI) self) (.ref fI, [self])) (hrest : rest.length ≤ sizeLine)
    (hq : codeAny (model prog w) A (.call (.ref fI) ⟨.ref (h.objs.size + 1) :: rest, []⟩)
      (fun r s' => match r with | .ok (.ret v) => v = .none ∧ Q (.done (.ret (.ref (h.objs.size + 1)))) s' | .ok _ => False | .error e => E e s')
      ⟨(h.push (W.kdv_tup rest)).push (HandSPX.excO C h.objs.size), g, d, t, os⟩) :
    wpAny (model prog w) A (Builtin.«type.__call__» ⟨.ref C :: rest, []⟩) Q E ⟨h, g, d, t, os⟩ := by
  repeat (first | with_reducible refine wpAny_loadPart_at hC ?_ | with_reducible refine wpAny_madeBy_exc hC ?_ | wp_step)
  refine codeAny_call_builtin_code (Code.quiet_builtin _ F.quiet) (chk_new F hT hC ?_)
  refine new_run F hT hC ?_ hrest
  show wpAny _ _ _ _ _ _
  have k : ∀ b o, h.get? b = some o → ((h.push (W.kdv_tup rest)).push (HandSPX.excO C h.objs.size)).get? b = some o := fun b o e => Heap.get?_push_of_some _ (Heap.get?_push_of_some _ e)
  have hC₁ := k _ _ hC
  have hget : ((h.push (W.kdv_tup rest)).push (HandSPX.excO C h.objs.size)).get? (h.objs.size + 1) = some (HandSPX.excO C h.objs.size) := by heap_get
  have hcC : (Value.ref C :: bm).contains (.ref C) = true := by simp
  have i1 := hi.keeps k
  have b1 := (hb (.ref (h.objs.size + 1))).keeps k
  unfold isInstance
  repeat (first | with_reducible refine wpAny_loadPart_at hget ?_ | (with_reducible refine wpAny_isSubtype_exc hC₁ ?_; rw [hcC]) | wp_step)
  show wpAny _ _ (typeLookup (.ref C) _) _ _ _
  refine i1.at ?_
  refine wpAny_holding (wpAny_bind (b1.at ?_))
  refine wpAny_bind (wpAny_call (codeAny_mono hq fun r s' z => ?_))
  rcases r with e | (v | _ | _ | _) <;> first | exact z | exact z.elim | skip
  obtain ⟨rfl, z⟩ := z
  first
    | exact wpAny_pure (wpAny_pure z)
    | (wp_walk; exact z)
/-- C(..): the built-in __new__, then the own __init__ -/
theorem own_call (F : ExcBaseFacts B newId initId bmB) (hT : Abv B bm) {rest : List Value} {fI : Addr}
    (hC : h.get? C = some (excClassObj nm q C N bs bm hdct sn sub ab col dd k0 k1 k2 k3 k5 newId))
    (hi : W.Looks (model prog w) h (typeLookup (.ref C) "__init__") (some (.ref fI))) (hb : ∀ self, W.Looks (model prog w) h (bindSpecial (.ref fI) self) (.ref fI, [self])) (hrest : rest.length ≤ sizeLine)
    (hq : codeAny (model prog w) (A.under (.builtin "type.__call__" ⟨.ref C :: rest, []⟩)) (.call (.ref fI) ⟨.ref (h.objs.size + 1) :: rest, []⟩) (W.InitBack (h.objs.size + 1) R)
      ⟨(h.push (W.kdv_tup rest)).push (HandSPX.excO C h.objs.size), g, d, t, os⟩) :
    codeAny (model prog w) A (.call (.ref C) ⟨rest, []⟩) R ⟨h, g, d, t, os⟩ := by
  have f1 := tc_lookup
  have f2 := tc_bind (.ref C)
  have hTy : (⟨h, g, d, t, os⟩ : Shared).TypeIs (.ref C) "type" := ⟨_, hC, rfl⟩
  refine codeAny_of_tree ?_
  show wpAny _ _ (callAny (.ref C) _) _ _ _
  repeat (any_goals (first | assumption | with_reducible refine wpAny_loadPart_at hC ?_ | wp_step))
  refine ⟨rfl, ?_⟩
  refine codeAny_call_builtin_at (Code.quiet_builtin _ (by decide +kernel)) entry_typeCall (wpAny_check_type_call_sub hC (tcall_run F hT hC hi hb hrest ?_))
  refine codeAny_mono hq fun r s' z => ?_
  rcases r with e | (v | _ | _ | _) <;> exact z
end
end U
/-! E1: super().__init__(x); self.f = x -/
namespace U
open PySem PySem.W
section
variable {M : Model} {A : Around} {E : Value → Shared → Prop} {h : Heap} {g : Array GenState} {d : Drawn} {t : Nat} {os : OsState}
variable {nm q : Str} {C N : Addr} {bs bm bmB : List Value} {hdct : Bool} {sn : List Str} {sub : List Value} {ab : Bool} {col : Option Bool} {dd : Option Addr} {k0 k1 k2 k3 k5 : Option Value} {B newId initId : String}
theorem chk_bound (F : IniF B initId) {e : Addr} {oe : Obj} {rest : List Value} {Q : Unit → Shared → Prop}
    (hC : h.get? C = some (excClassObj nm q C N bs bm hdct sn sub ab col dd k0 k1 k2 k3 k5 newId)) (he : h.get? e = some oe) (hcls : oe.cls = .ref C) (hq : Q () ⟨h, g, d, t, os⟩) :
    wpAny M A (checkBoundCall initId ⟨.ref e :: rest, []⟩) Q E ⟨h, g, d, t, os⟩ := by
  have hshort := F.noStar
  simp only [checkBoundCall, F.kind, F.row]
  repeat (first | (with_reducible refine wpAny_loadPart_at he ?_; rw [hcls]) | with_reducible refine wpAny_loadPart_at hC ?_ | wp_step)
  refine wpAny_onRaise ?_
  rw [show ∀ (a b : String) (n : Nat), Bind.check ⟨.positional, "*", B, .self, [⟨"args", .varPos, false⟩]⟩ a b n (List.map (fun x => x.fst) ({ pos := Value.ref e :: rest } : Args).kw) = pure () from
    fun a b n => check_star_args _ _ _ _ _ _]
  exact wpAny_pure hq
end
section
variable {prog : Program} {w : World} {A : Around} {E : Value → Shared → Prop} {h : Heap} {g : Array GenState} {d : Drawn} {t : Nat} {os : OsState}
variable {nm q : Str} {C N : Addr} {bs bm : List Value} {hdct : Bool} {sn : List Str} {sub : List Value} {ab : Bool} {col : Option Bool} {dd : Option Addr} {k0 k1 k2 k3 k5 : Option Value} {B newId initId : String}
/-- the bound built-in __init__ called: the args are laid anew -/
theorem bw_call (F : IniF B initId) {u e t0 : Addr} {rest : List Value} {Q : Value → Shared → Prop}
    (hC : h.get? C = some (excClassObj nm q C N bs bm hdct sn sub ab col dd k0 k1 k2 k3 k5 newId)) (he : h.get? e = some (HandSPX.excO C t0)) (hu : h.get? u = some (kxs_mw initId e)) (hrest : rest.length ≤ sizeLine)
    (hq : ∀ h' t1, (∀ b o, b ≠ e → h.get? b = some o → h'.get? b = some o) → h'.get? e = some (HandSPX.excO C t1) → Q .none ⟨h', g, d, t, os⟩) :
    wpAny (model prog w) A (call (.ref u) rest) Q E ⟨h, g, d, t, os⟩ := by
  refine wpAny_call (codeAny_of_tree ?_)
  show wpAny _ A.in1 (callAny (.ref u) ⟨rest, []⟩) _ _ _
  simp only [callAny]
  refine wpAny_bind (wpAny_load hu ?_)
  simp only [kxs_mw, show (Value.type "method-wrapper" == Value.type "method" || Value.type "method-wrapper" == Value.type "builtin_function_or_method" || Value.type "method-wrapper" == Value.type "method-wrapper") = true by decide, if_true]
  refine W.KFB.if_so (by decide) ?_
  refine wpAny_bind (chk_bound F hC he rfl ?_)
  refine wpAny_bind (wpAny_pure (wpAny_pure ?_))
  refine ⟨plainId_quiet F.init.plain _, codeAny_builtin F.entry ?_⟩
  rw [Around.under_plainId F.init.plain _]
  wp_walk
  refine hq _ h.objs.size (fun b o hb ho => ?_) ?_
  · rw [Heap.get?_update_other _ _ (Ne.symm hb)]
    exact Heap.get?_push_of_some _ ho
  · rw [Heap.get?_update_self _ (Heap.get?_push_of_some _ he) rfl]
    rfl
end
section
open Builtin Builtin.ObjectAttr
variable {prog : Program} {w : World} {A : Around} {E : Value → Shared → Prop} {h : Heap} {g : Array GenState} {d : Drawn} {t : Nat} {os : OsState} {K : Frag} {C : Addr} {bmB : List Value} {B : String}
/-- self.f = v, the first one -/
theorem put_run (SF : StoreFacts B bmB "object.__setattr__" "object") {x : Addr} {fv : Array Value} {name : Str} {v : Value} {Q : Unit → Shared → Prop} (X : K.In h) (hx : h.get? x = some { cls := .ref C, data := .fields fv })
    (hsa : findIn K (.ref C) "__setattr__" = some (some (.builtin "object.__setattr__"))) (hov : excOver K C bmB = true) (ha : findIn K (.ref C) name = some none) (hh : hasDictIn K C = true)
    (hq : ∀ h' tk' dx, (∀ b o, b ≠ x → h.get? b = some o → h'.get? b = some o) → h.objs.size ≤ dx → dx ≠ x → h'.get? x = some { cls := .ref C, dict := some dx, data := .fields fv } →
      h'.Ns1 dx (fun y => if y = name then some v else none) → Q () ⟨h', g, d, tk', os⟩) : wpAny (model prog w) A (setAttr (.ref x) name v) Q E ⟨h, g, d, t, os⟩ := by
  have I : InstAt h x { cls := .ref C, data := .fields fv } C none := ⟨hx, rfl, rfl, trivial⟩
  have ht : takerIn K C name = some none := by
    unfold takerIn
    rw [ha]
    rfl
  have hxs : x ≠ h.objs.size := Nat.ne_of_lt (Heap.lt_size hx)
  refine set_plain (s := ⟨h, g, d, t, os⟩) X I hsa (osa_openX (s := ⟨h, g, d, t + 1, os⟩) (od := none) SF X I hov ht fun b => ?_)
  obtain ⟨cd, hc, hd'⟩ := any_some hh
  have hcls : W.Looks (model prog w) h (classData C) cd := W.looks_clsIn X hc
  obtain ⟨nm, bs, mro, ns, qn, hd, sn, sb, ab, col, del⟩ := cd
  dsimp only at hd'
  subst hd'
  show wpAny _ _ (storeInOwnDict (.ref x) (.ref C) (.str name t) name v b) _ _ _
  unfold storeInOwnDict ownDictForStores
  repeat (first | with_reducible refine HandSPX.store_in_new ?_ ?_ | with_reducible refine wpAny_loadPart_at hx ?_ | with_reducible refine hcls.at ?_ | wp_step)
  · exact ⟨_, #[], _, (Heap.get?_update_ne _ _ _ _ hxs.symm).trans (Heap.get?_push_at rfl rfl), rfl, fun e he => absurd he (by simp), fun _ => rfl⟩
  · intro h' tk' hn' hs
    have hx₁ : (h.push { cls := .type "dict", data := .dict #[] }).get? x = some { cls := .ref C, data := .fields fv } := Heap.get?_push_of_some _ hx
    refine hq h' tk' h.objs.size (fun b o hb ho => ?_) (Nat.le_refl _) hxs.symm ?_ hn'
    · exact (hs.2 b (Nat.ne_of_lt (Heap.lt_size ho))).trans ((Heap.get?_update_ne _ _ _ _ hb).trans (Heap.get?_push_of_some _ ho))
    · exact (hs.2 x hxs).trans (Heap.get?_update_self _ hx₁ rfl)
end
end U
/-! E2: the call of an own exception class whose __init__ says super().__init__(x); self.f = x -/
namespace U
open PySem PySem.W
/-- the two lines -/
abbrev supBody (pn fn : Str) (p0 p1 p2 p3 p4 p5 p6 p7 p8 p9 : Pos) : List Stmt :=
  [.Expr (.Call (.Attribute (.Call (.Name "super" p0) [] [] p1) "__init__" p2) [.Name pn p3] [] p4) p5, .Assign [.Attribute (.Name "self" p6) fn p7] (.Name pn p8) p9]
/-- how the lines are told apart by their places (by rfl of each text) -/
structure SupE (pn fn : Str) (p0 p1 p2 p3 p4 p6 p7 p8 p9 : Pos) : Prop where
  ev : ∃ pl : Sem Bool, ∀ env : Env, eval (.Call (.Attribute (.Call (.Name "super" p0) [] [] p1) "__init__" p2) [.Name pn p3] [] p4) env = (do
      let ov ← attributeBase (.Call (.Name "super" p0) [] [] p1) "__init__" env (eval (.Call (.Name "super" p0) [] [] p1) env)
      standAt p2.atName
      let (f, first) ← holding [ov] (getMethod ov "__init__" pl)
      callWith p4 f first (backTo p4 (starEach [.Name pn p3] env)) [])
  sw : ∀ env : Env, swapsWith (.Name pn p8) (some (.Attribute (.Name "self" p6) fn p7)) p9.line env = pure false
/-- what the written part says of such an __init__ -/
structure SupF (P : Program) (K : Frag) (C fI : Addr) (qual pn fn : Str) (params : Arguments) (body : List Stmt) (scope : Scope) : Prop where
  bd : ∃ p0 p1 p2 p3 p4 p5 p6 p7 p8 p9, body = supBody pn fn p0 p1 p2 p3 p4 p5 p6 p7 p8 p9 ∧ SupE pn fn p0 p1 p2 p3 p4 p6 p7 p8 p9
  fn : ∃ (oc : Value) (od : Option Addr) (dV kV doc pm : Value) (an : Option Addr) (cda cc : Addr) (ct : Value) (osl : Array (Option Value)) (ccl cl tv : Value) (cdd cld : Option Addr) (vs : Array Value) (ccs csl : Array (Option Value)) (file : Str) (tf : Tok),
    K.lookup fI = some ⟨oc, od, .func (ksFn "__init__" qual params body scope dV kV doc pm an (.ref cda) ct cc), osl⟩ ∧ codeIn K (.ref cda) qual = true ∧ K.lookup cda = some ⟨ccl, cdd, .fields vs, ccs⟩ ∧ vs[2]? = some (.str file tf) ∧
    ((P.main.file : Str) == file) = true ∧ K.lookup cc = some ⟨cl, cld, .cell (some (.ref C)), csl⟩ ∧
    (∀ (s : Shared) (a b : Value), BindsTo s (ksFn "__init__" qual params body scope dV kV doc pm an (.ref cda) ct cc) ⟨[a, b], []⟩ [("self", a), (pn, b)])
  par : ∃ ar : Arg, (params.posonlyargs ++ params.args).head? = some ar ∧ ar.arg = "self"
  nself : scope.names.lookup ("self" : Str) = some .local
  npn : scope.names.lookup pn = some .local
  nsup : scope.names.lookup ("super" : Str) = some .globalImplicit
  ncls : scope.names.lookup ("__class__" : Str) = some .free
  kind : scope.kind = .function
  co : scope.isCoroutine = false
  gen : scope.isGenerator = false
  cells : ∀ x ∈ scope.names, x.2 ≠ .cell
  top : (P.main.scope.names.lookup ("super" : Str)).isSome = false
  ne : pn ≠ "self"
  ndb : (pn == ("__debug__" : Str)) = false
  ty : typeIn K (.ref fI) = some (.type "function")
/-- .. and of its class -/
structure SupC (K : Frag) (B newId initId : String) (bmB : List Value) (C fI : Addr) (fn : Str) : Prop where
  cls : ∃ nm q N bs bm sn sub ab col dd k0 k1 k2 k3 k5, K.lookup C = some (excClassObj nm q C N bs bm true sn sub ab col dd k0 k1 k2 k3 k5 newId) ∧ excTail bmB bm = true
  over : excOver K C bmB = true
  ini : findIn K (.ref C) "__init__" = some (some (.ref fI))
  sup : ks_superIn K C C "__init__" = some (some (.builtin initId))
  sB : subIn K (.ref C) (.type B) = some true
  opq : nsIn K cStatics "thirdparty.any" = some none
  sa : findIn K (.ref C) "__setattr__" = some (some (.builtin "object.__setattr__"))
  no : findIn K (.ref C) fn = some none
  dct : hasDictIn K C = true
  kC : keepIn K (.ref C) = true
section
variable {prog : Program} {w : World} {A : Around} {h : Heap} {g : Array GenState} {d : Drawn} {t : Nat} {os : OsState} {K : Frag} {C fI e t0 : Addr} {bmB : List Value} {B newId initId : String} {qual pn fn : Str} {params : Arguments} {body : List Stmt} {scope : Scope}
variable {R : Result → Shared → Prop} {mg mb : Str → Option Value} {u : Value}
theorem init_run (I0 : IniF B initId) (SF : StoreFacts B bmB "object.__setattr__" "object") (TC : SupC K B newId initId bmB C fI fn) (TF : SupF prog K C fI qual pn fn params body scope) (X : K.In h) (lim : h.NoLimit) (glo : h.Ns mainGlobals mg) (blt : h.Ns builtinsNs mb) (hmg : mg "super" = none) (hmb : mb "super" = some (.type "super"))
    (room : A.depth < recursionLimit) (hKe : K.lookup e = none) (he : h.get? e = some (HandSPX.excO C t0))
    (hq : ∀ h' tk' dx t1, (∀ b o, b ≠ e → h.get? b = some o → h'.get? b = some o) → h.objs.size ≤ dx → h'.get? e = some { cls := .ref C, dict := some dx, data := .fields #[.ref t1, .none, .none, .none, .bool false, .none] } →
      h'.Ns1 dx (fun y => if y = fn then some u else none) → R (.ok (.ret .none)) ⟨h', g, d, tk', os⟩) : codeAny (model prog w) A (.call (.ref fI) ⟨[.ref e, u], []⟩) R ⟨h, g, d, t, os⟩ := by
  obtain ⟨p0, p1, p2, p3, p4, p5, p6, p7, p8, p9, rfl, SE⟩ := TF.bd
  obtain ⟨pl, hev⟩ := SE.ev
  obtain ⟨oc, od, dV, kV, doc, pm, an, cda, cc, ct, osl, ccl, cl, tv, cdd, cld, vs, ccs, csl, file, tf, hf, hcd, hcode, hvs, hfile, hcell, hbind⟩ := TF.fn
  obtain ⟨nm, qn, N, bs, bm, sn, sub, ab, col, dd, k0, k1, k2, k3, k5, hC, hbm⟩ := TC.cls
  obtain ⟨ar, har, hself⟩ := TF.par
  have hloc : ∀ y ∈ ([("self", .ref e), (pn, u)] : List (Str × Value)), scope.names.lookup y.1 = some .local := fun y hy => by
    rcases List.mem_cons.mp hy with rfl | hy
    · exact TF.nself
    · rcases List.mem_cons.mp hy with rfl | hy
      · exact TF.npn
      · cases hy
  refine ks_codeAny_call_defAt (fd := ksFn "__init__" qual params (supBody pn fn p0 p1 p2 p3 p4 p5 p6 p7 p8 p9) scope dV kV doc pm an (.ref cda) ct cc) (body := supBody pn fn p0 p1 p2 p3 p4 p5 p6 p7 p8 p9) (binds := [("self", .ref e), (pn, u)])
    room (X _ _ hf) rfl lim (codeRec_of X hcd) rfl (hbind _ _ _) TF.cells hloc (fun h1 hns hk1 => ?_) TF.co TF.gen TF.kind
  have X1 : K.In h1 := X.keeps hk1
  show wpAt _ _ (.func _ (ksEnv qual scope h.objs.size fI (.ref cda) cc)) (execs _ (ksEnv qual scope h.objs.size fI (.ref cda) cc)) _ _ _
  have eself : (fun x => List.lookup x (List.reverse ([("self", .ref e), (pn, u)] : List (Str × Value)))) ("self" : Str) = some (.ref e) := by
    have : (("self" : Str) == pn) = false := beq_eq_false_iff_ne.mpr (Ne.symm TF.ne)
    simp [List.lookup, this]
  have epn : (fun x => List.lookup x (List.reverse ([("self", .ref e), (pn, u)] : List (Str × Value)))) pn = some u := by
    simp [List.lookup]
  have clD : clsIn K C = some { name := nm, bases := bs, mro := .ref C :: bm, ns := N, qualname := qn, hasDict := true, slotNames := sn, subclasses := sub, abstract := ab, collection := col, hasDel := false } := by
    unfold clsIn
    rw [hC]
  have hint : interactive (ksEnv qual scope h.objs.size fI (.ref cda) cc) = false := by
    unfold interactive
    simp [TF.kind]
  refine ks_wpAt_execs_cons (ks_wpAt_Expr_any ?_ hint (by rfl))
  refine ks_wpAt_MethodCall (pl := pl) ?_ (hev _)
  refine ks_wpAt_super_base (env := ksEnv qual scope h.objs.size fI (.ref cda) cc) TF.nsup TF.ncls (by decide) rfl (X1 _ _ hf) rfl har rfl (X1 _ _ hcode) rfl hvs hfile TF.top ?_
  refine ks_loadName_global TF.kind TF.nsup (Calls.loadGlobal_builtin (env := ksEnv qual scope h.objs.size fI (.ref cda) cc) (glo.keeps hk1) hmg (blt.keeps hk1) hmb ⟨rfl, ?_⟩)
  refine wpAny_loadName_free TF.kind TF.ncls rfl ⟨_, X1 _ _ hcell, rfl⟩ ?_
  rw [hself]
  refine wpAny_loadName_local TF.kind TF.nself hns eself ?_
  have hC1 := X1 _ _ hC
  have he1 := hk1 _ _ he
  have mroC : Looks (model prog w) h1 (isSubtype (.ref C) (.ref C)) true := fun A Q E s k q => by
    obtain ⟨s1, s2, s3, s4, s5⟩ := s
    refine wpAny_isSubtype_exc (k _ _ hC1) ?_
    have : (Value.ref C :: bm).contains (.ref C) = true := by simp
    rw [this]
    exact q
  refine ks_wpAny_isType_cls hC1 rfl ⟨rfl, ?_⟩
  refine ks_wpAny_call_super hC1 rfl he1 rfl (fun c z => nomatch z) mroC (fun h2 so hk2 => ?_)
  have X2 : K.In h2 := X1.keeps hk2
  have he2 := hk2 _ _ he1
  have I2 : InstAt h2 e (HandSPX.excO C t0) C none := ⟨he2, rfl, rfl, trivial⟩
  have hm := TC.sup
  unfold ks_superIn at hm
  rw [clD, Option.bind_some] at hm
  refine kxs_getMethod I0.kxs so (looks_opaque X2 TC.opq) (l₀ := .ref C :: bm) (fun A Q E s k q => wpAny_bind ((looks_clsIn X2 clD) A _ E s k (wpAny_pure q))) rfl X2 hm (I2.type.andThen (looks_subIn X2 TC.sB)) (ks_ne X2 I2 clD) (by decide) ?_
  have k3 : ∀ b o, h2.get? b = some o → (h2.push (kxs_mw initId e)).get? b = some o := fun b o z => Heap.get?_push_of_some _ z
  have X3 : K.In (h2.push (kxs_mw initId e)) := X2.keeps k3
  have hu : (h2.push (kxs_mw initId e)).get? h2.objs.size = some (kxs_mw initId e) := Heap.get?_push_at rfl rfl
  have k13 : ∀ b o, h1.get? b = some o → (h2.push (kxs_mw initId e)).get? b = some o := fun b o z => k3 b o (hk2 b o z)
  have hns3 : (h2.push (kxs_mw initId e)).Ns h.objs.size (fun x => List.lookup x (List.reverse ([("self", .ref e), (pn, u)] : List (Str × Value)))) := hns.keeps k13
  refine kxs_callWith (i := initId) (x := e) (by rfl) (Calls.evalArgs_plain ?_)
  refine Calls.spliced_cons (ESX.ldL (env := ksEnv qual scope h.objs.size fI (.ref cda) cc) hns3 epn ?_ TF.kind TF.npn TF.ndb)
  refine Calls.spliced_nil ⟨hu, ?_⟩
  show wpAny _ _ (call (.ref h2.objs.size) [u]) _ _ _
  have le : e < h.objs.size := Heap.lt_size he
  refine bw_call I0 (k13 _ _ hC1) (k3 _ _ he2) hu (by show (1 : Nat) ≤ sizeLine; decide) (fun h4 t1 k4 e4 => ?_)
  have k14 : ∀ b o, b ≠ e → h1.get? b = some o → h4.get? b = some o := fun b o hb z => k4 b o hb (k13 b o z)
  have X4 : K.In h4 := fun b o z => k4 b o (fun y => by
      subst y
      rw [hKe] at z
      cases z) (X3 b o z)
  have hns4 : h4.Ns h.objs.size (fun x => List.lookup x (List.reverse ([("self", .ref e), (pn, u)] : List (Str × Value)))) := by
    obtain ⟨o, es, ep, z, r⟩ := hns3
    exact ⟨o, es, ep, k4 _ _ (Nat.ne_of_gt le) z, r⟩
  refine ks_wpAt_execs_cons (ks_wpAt_Assign_Attr ?_ (SE.sw _))
  refine wpAt_of_wpAny (ESX.ldL (env := ksEnv qual scope h.objs.size fI (.ref cda) cc) hns4 epn ?_ TF.kind TF.npn TF.ndb)
  refine ESX.ldL (env := ksEnv qual scope h.objs.size fI (.ref cda) cc) hns4 eself ?_ TF.kind TF.nself (by decide)
  refine put_run SF X4 e4 TC.sa TC.over TC.no TC.dct (fun h5 tk5 dx k5 hd5 ne5 e5 n5 => ?_)
  refine wpAt_of_wpAny (wpAny_execs_nil ?_)
  refine hq h5 tk5 dx t1 (fun b o hb z => k5 b o hb (k14 b o hb (hk1 b o z))) ?_ e5 n5
  obtain ⟨o, es, ep, z, r⟩ := hns4
  exact Nat.le_trans (Nat.le_of_lt (Heap.lt_size z)) hd5
end
end U
/-! E3: own exceptions as values: made, their field, isinstance -/
namespace U
open PySem PySem.Spec PyProof.Rows L2
/-- an exception of the class at D stands at a -/
def ExAt (H : Hp) (a D : Addr) : Prop := H a = some (ExO (.ref D) a) ∨ ∃ dx fs, H a = some (exo a D (some dx)) ∧ H dx = some (exd dx fs)
def tExc (C : Addr) (fn : Str) (te : TE) : TE := fun σ H Q => te σ H fun v H1 => ∀ a dx, H1 a = none → H1 dx = none → a ≠ dx → Q (.ref a) (upd (upd H1 dx (exd dx [(fn, v)])) a (exo a C (some dx)))
def tExc0 (C : Addr) : TE := fun _ H Q => ∀ a, H a = none → Q (.ref a) (upd H a (ExO (.ref C) a))
/-- what is asked of the base -/
structure BaseX (Bn newId initn : String) (bmn : List Value) (B initId : String) (bmB : List Value) : Prop where
  nw : ExcBaseFacts Bn newId initn bmn
  ini : IniF B initId
  st : StoreFacts B bmB "object.__setattr__" "object"
  abv : ∀ bm, PySem.W.excTail bmB bm = true → Abv Bn bm
theorem base_VE : BaseX "ValueError" "ValueError.__new__" "ValueError.__init__" veTl "ValueError" "ValueError.__init__" veTl :=
  ⟨F.excBase_ValueError, ini_ValueError, F.store_ValueError, fun bm h => ⟨(PySem.W.excTail_contains _ _ h).trans (by decide +kernel), (PySem.W.excTail_contains _ _ h).trans (by decide +kernel), (PySem.W.excTail_contains _ _ h).trans (by decide +kernel)⟩⟩
theorem base_KE : BaseX "LookupError" "LookupError.__new__" "LookupError.__init__" [.type "LookupError", .type "Exception", .type "BaseException", .type "object"] "KeyError" "KeyError.__init__" keTail :=
  ⟨F.excBase_LookupError, ini_KeyError, store_KeyError, fun bm h => ⟨(PySem.W.excTail_contains _ _ h).trans (by decide +kernel), (PySem.W.excTail_contains _ _ h).trans (by decide +kernel), (PySem.W.excTail_contains _ _ h).trans (by decide +kernel)⟩⟩
section
variable {X : Cx} {x : Str} {C fI : Addr} {k : Nat} {e : Expr} {te : TE} {p pos : Pos} {Bn newId initn B initId : String} {bmn bmB : List Value} {qual pn fn : Str} {params : Arguments} {body : List Stmt} {scope : Scope}
/-- what is run by C(u): an exception with its dict -/
theorem make_run (BX : BaseX Bn newId initn bmn B initId bmB) (TC : SupC X.K B newId initId bmB C fI fn) (TF : SupF X.prog X.K C fI qual pn fn params body scope) (hsup : X.mg "super" = none) (hr : Room (k + 1) X.A)
    {pins : List (Addr × Obj)} {σ : L2.St} {H : Hp} {s : Shared} {u : Value} (I : Inv X pins σ H s) {Q : Value → Shared → Prop}
    (hq : ∀ h' tk' a dx t1, (∀ b o, s.heap.get? b = some o → h'.get? b = some o) → s.heap.get? a = none → s.heap.get? dx = none → a ≠ dx →
      h'.get? a = some ({ cls := .ref C, dict := some dx, data := .fields #[.ref t1, .none, .none, .none, .bool false, .none] } : Obj) → h'.Ns1 dx (fun y => if y = fn then some u else none) → Q (.ref a) { s with heap := h', toks := tk' }) :
    wpAny (model X.prog X.w) X.A (call (.ref C) [u]) Q X.xe s := by
  obtain ⟨h, g, d, t, os⟩ := s
  obtain ⟨nm, qn, N, bs, bm, sn, sub, ab, col, dd, k0, k1, k2, k3, k5, hC, hbm⟩ := TC.cls
  obtain ⟨mb, hb1, hb2⟩ := I.mod.blt
  have XK := I.kIn
  have kk : ∀ b o, h.get? b = some o → ((h.push (PySem.W.kdv_tup [u])).push (PySem.HandSPX.excO C h.objs.size)).get? b = some o := fun b o e => Heap.get?_push_of_some _ (Heap.get?_push_of_some _ e)
  have hget : ((h.push (PySem.W.kdv_tup [u])).push (PySem.HandSPX.excO C h.objs.size)).get? (h.objs.size + 1) = some (PySem.HandSPX.excO C h.objs.size) := by heap_get
  have hKe : X.K.lookup (h.objs.size + 1) = none := by
    cases z : X.K.lookup (h.objs.size + 1) with
    | none => rfl
    | some o =>
      have := Heap.lt_size (XK _ _ z)
      exact absurd this (by show ¬ (h.objs.size + 1 < h.objs.size); omega)
  have un : ∀ b, h.objs.size ≤ b → h.get? b = none := fun b hb => by
    cases z : h.get? b with
    | none => rfl
    | some o => exact absurd (Heap.lt_size z) (Nat.not_lt.mpr hb)
  have sz : ((h.push (PySem.W.kdv_tup [u])).push (PySem.HandSPX.excO C h.objs.size)).objs.size = h.objs.size + 2 := by
    rw [Heap.size_push, Heap.size_push]
  refine wpAny_call (own_call BX.nw (BX.abv _ hbm) (XK _ _ hC) (PySem.W.looks_findIn XK TC.ini) (fun self => PySem.W.bind_fn XK self TF.ty) (by show (1 : Nat) ≤ sizeLine; decide) ?_)
  refine init_run (mg := X.mg) (mb := mb) BX.ini BX.st TC TF (XK.keeps kk) ((I.mod.nolimit.keeps I.bk).keeps kk) ((I.mod.glob.keeps I.bk).keeps kk) ((hb1.keeps I.bk).keeps kk) hsup ((hb2 _ (by decide)).trans (by decide +kernel)) ((hr.make C [u] []).depth) hKe hget
    (fun h' tk' dx t1 k' hdx he hn => ⟨rfl, ?_⟩)
  rw [sz] at hdx
  exact hq h' tk' (h.objs.size + 1) dx t1 (fun b o z => k' b o (fun y => by
      subst y
      rw [un _ (Nat.le_succ _)] at z
      cases z) (kk b o z)) (un _ (Nat.le_succ _)) (un _ (Nat.le_trans (Nat.le_add_right _ 2) hdx)) (Nat.ne_of_lt hdx) he hn
/-- C(e) as a value -/
theorem pe_exc (BX : BaseX Bn newId initn bmn B initId bmB) (TC : SupC X.K B newId initId bmB C fI fn) (TF : SupF X.prog X.K C fI qual pn fn params body scope) (hsup : X.mg "super" = none) (hr : Room (k + 1) X.A) (gC : X.mg x = some (.ref C)) (hg : Gl X x)
    (he : PE X e te) (hs : starEach [e] X.env = (false, eval e X.env) :: starEach [] X.env := by rfl) (hdb : (x == ("__debug__" : Str)) = false := by decide) : PE X (.Call (.Name x p) [e] [] pos) (tExc C fn te) := by
  refine ⟨fun pins s σ H Q I h => ?_⟩
  refine wpAny_Call_Name_kw (ld_glob I hg gC ?_ hdb)
  refine PySem.W.callWith_K (h₀ := X.base) I.ok.mod.kin TC.kC ?_ hs (by rfl)
  rw [hs]
  show wpAny _ _ (spliced ((false, eval e X.env) :: backTo pos (starEach [] X.env))) _ _ s
  refine Calls.spliced_cons (thn (he.run pins s σ H _ I h) fun u s1 ⟨v, H1, I1, r1, q1⟩ => ?_)
  refine Calls.spliced_nil ⟨I1.kIn, ?_⟩
  show wpAny _ _ (call (.ref C) [u]) _ _ _
  refine make_run BX TC TF hsup hr I1 fun h' tk' a dx t1 kh na nd ne ha hd => ?_
  have Ha : H1 a = none := I1.hok.gone na
  have Hd : H1 dx = none := I1.hok.gone nd
  obtain ⟨G, g1, g2⟩ := restrict h' fun b => decide (b ≠ a)
  have gk : ∀ b, b ≠ a → G.get? b = h'.get? b := fun b hb => g1 b (decide_eq_true hb)
  have ga : G.get? a = none := g2 a (by simp)
  have gs : ∀ b o, G.get? b = some o → h'.get? b = some o := fun b o z => by
    by_cases hb : b = a
    · rw [hb, ga] at z
      cases z
    · rw [← gk b hb]
      exact z
  have rel : ∀ f : Str, RelO (([(fn, v)] : List (Str × V)).lookup f) ((fun y => if y = fn then some u else none) f) := fun f => relO_put (fs := []) (mA := fun _ => none) r1 (fun _ => True.intro) f
  have I2 : Inv X pins σ (upd H1 dx (exd dx [(fn, v)])) { s1 with heap := G, toks := tk' } := I1.laidN (fun b o z => by
      rw [gk b (fun y => by
        subst y
        rw [na] at z
        cases z)]
      exact kh b o z) nd Hd (exd_ok (hd.at fun o z => (gk dx (Ne.symm ne)).trans z) rel)
  have I3 : Inv X pins σ (upd (upd H1 dx (exd dx [(fn, v)])) a (exo a C (some dx))) { s1 with heap := h', toks := tk' } := I2.laidN gs ga (by rw [upd_ne ne]; exact Ha) (exo_ok ha)
  exact ⟨.ref a, _, I3, rfl, q1 a dx Ha Hd ne⟩
end
section
variable {X : Cx}
/-- C(), no __init__ of its own -/
theorem pe_exc0 {C : Addr} {bmB : List Value} {B newId initId : String} {x : Str} {p pos : Pos} (F : ExcBaseFacts B newId initId bmB) (q : PySem.W.excIn X.K C bmB newId = true) (gC : X.mg x = some (.ref C)) (kC : PySem.W.keepIn X.K (.ref C) = true) (hg : Gl X x)
    (hdb : (x == ("__debug__" : Str)) = false := by decide) : PE X (.Call (.Name x p) [] [] pos) (tExc0 C) := by
  refine ⟨fun pins s σ H Q I h => ?_⟩
  refine wpAny_Call_Name_kw (ld_glob I hg gC ?_ hdb)
  refine PySem.W.callWith_K0 I.kIn kC ?_
  show wpAny _ _ (call (.ref C) []) _ _ _
  obtain ⟨bm, N, nm, qn, bs, hdct, sn, sub, ab, col, dd, k0, k1, k2, k3, k5, mN, hC, hN, hni, T⟩ := exc_obj I.kIn q
  refine wpAny_call_exc_subT F T hC hN hni (fun h' a hm => ?_) (by show 0 ≤ sizeLine; omega)
  have hn : H a = none := I.hok.gone hm.new
  obtain ⟨t, ht, _, _⟩ := hm.there
  exact ⟨.ref a, upd H a (ExO (.ref C) a), I.laidN hm.keeps hm.new hn (exO_ok ht ⟨rfl, rfl⟩ rfl rfl rfl (show 4 < 6 by decide)), rfl, h a hn⟩
/-- the field of an exception -/
def tXv (K : PySem.W.Frag) (f : Str) (te : TE) : TE := fun σ H Q => te σ H fun x H1 => ∃ (a C dx : Addr) (fs : List (Str × V)) (v : V), x = .ref a ∧ H1 a = some (exo a C (some dx)) ∧ H1 dx = some (exd dx fs) ∧ XfC K C ∧ PySem.W.findIn K (.ref C) f = some none ∧ fs.lookup f = some v ∧ Q v H1
theorem pe_xv {e : Expr} {te : TE} {pos : Pos} {n : Str} (he : PE X e te) (hb : attributeBase e n X.env (eval e X.env) = eval e X.env := by rfl) : PE X (.Attribute e n pos) (tXv X.K n te) := by
  refine ⟨fun pins s σ H Q I h => ?_⟩
  refine attr_of hb (thn (he.run pins s σ H _ I h) fun u s1 hh => ?_)
  obtain ⟨x, H1, I1, rx, a, C, dx, fs, v, ex, ea, ed, T, hno, l, q⟩ := hh
  subst ex
  obtain rfl : u = Value.ref a := rx
  obtain ⟨t1, ha⟩ := exo_at I1.hok ea
  obtain ⟨mA, hns, hr⟩ := exd_at I1.hok ed
  obtain ⟨od, ho, hl⟩ := lookIn_ns hns
  obtain ⟨u, hu, ru⟩ := RelO.some_of (v := v) (o := mA n) (by rw [← l]; exact hr n)
  have J : PySem.W.InstAt s1.heap a _ C (some od) := ⟨ha, rfl, rfl, ho⟩
  exact HandSPX.exc_get I1.kIn J T.ga T.gg T.exC (PySem.W.findObj_own T.hdC hno rfl (by rw [hl, hu])) (handed_of ru) ⟨v, H1, I1.tok _, ru, q⟩
/-- isinstance(e, c), e an exception of an own class -/
def rIsX (K : PySem.W.Frag) : List V → Hp → VK → Prop := fun xs H Q => ∃ (a D : Addr) (c : V) (cv : Value) (b : Bool), xs = [.ref a, c] ∧ ExAt H a D ∧ ExcC K D ∧ ClsV c cv ∧ PySem.W.kitOne K (.ref D) cv = some b ∧ Q (.bl b) H
theorem call_isX : CallR X (.builtin "isinstance") (rIsX X.K) := by
  intro pins s σ H xs us Q I r h
  obtain ⟨a, D, c, cv, b, rfl, hA, C, hc, e, q⟩ := h
  obtain ⟨u1, u2, rfl, r1, r2⟩ := vals2 r
  cases (show u1 = Value.ref a from r1)
  have e2 := hc.eq r2
  subst e2
  have hcl : (PySem.W.clsIn X.K D).isSome = true := by
    obtain ⟨cd, z, _⟩ := PySem.W.any_some C.hd
    rw [z]
    rfl
  rcases hA with ha | ⟨dx, fs, ha, hd⟩
  · obtain ⟨⟨oe, vs, ho, hz, hd, _⟩, _, _⟩ := I.hok a _ ha
    have J : PySem.W.InstAt s.heap a oe D none := by
      obtain ⟨oc, od, oda, osl⟩ := oe
      obtain ⟨h1, h2⟩ := hz
      dsimp only at h1 h2 hd
      subst h1 h2 hd
      exact ⟨ho, rfl, rfl, trivial⟩
    exact PySem.W.kia_one (PySem.W.kitx_exc hcl C.hg C.hk C.hs C.ha C.hn C.ht C.hm) I.kIn J e (fun z => nomatch z) fun tk => ⟨.bl b, H, I.tok tk, rfl, q⟩
  · obtain ⟨t1, hz⟩ := exo_at I.hok ha
    obtain ⟨mA, hns, hr⟩ := exd_at I.hok hd
    obtain ⟨od, ho, hl⟩ := lookIn_ns hns
    have J : PySem.W.InstAt s.heap a _ D (some od) := ⟨hz, rfl, rfl, ho⟩
    exact PySem.W.kia_one (PySem.W.kitx_exc hcl C.hg C.hk C.hs C.ha C.hn C.ht C.hm) I.kIn J e (fun z => nomatch z) fun tk => ⟨.bl b, H, I.tok tk, rfl, q⟩
end
end U
/-! E4: the facts of own exceptions, put together from what the top has written -/
namespace U
open PySem PySem.Spec PyProof.Rows L2
/-- what an __init__'s text says by itself -/
structure SupS (P : Program) (s : Stmt) (pn fn : Str) : Prop where
  bd : ∃ p0 p1 p2 p3 p4 p5 p6 p7 p8 p9, defBody s = supBody pn fn p0 p1 p2 p3 p4 p5 p6 p7 p8 p9 ∧ SupE pn fn p0 p1 p2 p3 p4 p6 p7 p8 p9
  par : ∃ ar : Arg, ((defArgs s).posonlyargs ++ (defArgs s).args).head? = some ar ∧ ar.arg = "self"
  nself : (defScope s).names.lookup ("self" : Str) = some .local
  npn : (defScope s).names.lookup pn = some .local
  nsup : (defScope s).names.lookup ("super" : Str) = some .globalImplicit
  ncls : (defScope s).names.lookup ("__class__" : Str) = some .free
  kind : (defScope s).kind = .function
  co : (defScope s).isCoroutine = false
  gen : (defScope s).isGenerator = false
  cells : ∀ x ∈ (defScope s).names, x.2 ≠ .cell
  top : (P.main.scope.names.lookup ("super" : Str)).isSome = false
  ne : pn ≠ "self"
  ndb : (pn == ("__debug__" : Str)) = false
  bnd : ∀ (qual : Str) (kV doc pm : Value) (an : Option Addr) (cdv ct : Value) (cc : Addr) (a b : Value), bindArgs (PySem.W.ksFn "__init__" qual (defArgs s) (defBody s) (defScope s) .none kV doc pm an cdv ct cc) ⟨[a, b], []⟩ = pure ([("self", a), (pn, b)] : List (Str × Value))
theorem supF_mk {P : Program} {K : PySem.W.Frag} {C fI cda cc : Addr} {qual pn fn : Str} {st : Stmt} (T : SupS P st pn fn) {oc kV doc pm ct ccl cl : Value} {od an cdd cld : Option Addr} {osl ccs csl : Array (Option Value)} {vs : Array Value} {file : Str} {tf : Tok}
    (hf : K.lookup fI = some ⟨oc, od, .func (PySem.W.ksFn "__init__" qual (defArgs st) (defBody st) (defScope st) .none kV doc pm an (.ref cda) ct cc), osl⟩) (hcd : PySem.W.codeIn K (.ref cda) qual = true) (hco : K.lookup cda = some ⟨ccl, cdd, .fields vs, ccs⟩)
    (hvs : vs[2]? = some (.str file tf)) (hfile : ((P.main.file : Str) == file) = true) (hce : K.lookup cc = some ⟨cl, cld, .cell (some (.ref C)), csl⟩) (hty : PySem.W.typeIn K (.ref fI) = some (.type "function")) :
    SupF P K C fI qual pn fn (defArgs st) (defBody st) (defScope st) :=
  ⟨T.bd, ⟨oc, od, .none, kV, doc, pm, an, cda, cc, ct, osl, ccl, cl, .none, cdd, cld, vs, ccs, csl, file, tf, hf, hcd, hco, hvs, hfile, hce, fun s a b => .of_eq (T.bnd qual kV doc pm an (.ref cda) ct cc a b)⟩,
    T.par, T.nself, T.npn, T.nsup, T.ncls, T.kind, T.co, T.gen, T.cells, T.top, T.ne, T.ndb, hty⟩
/-- the class's facts, by one look -/
def excCB (K : PySem.W.Frag) (D : Addr) : Bool :=
  decide (PySem.W.findIn K (.ref D) "__getattribute__" = some (some (.builtin "BaseException.__getattribute__"))) && (decide (PySem.W.findIn K (.ref D) "__getattr__" = some none) && (decide (PySem.W.subIn K (.ref D) (.type "BaseException") = some true) &&
  (PySem.W.hasDictIn K D && (decide (PySem.W.findIn K (.ref D) "__class__" = some (some (.builtin "object.__class__"))) && (decide (PySem.W.specialIn K (.builtin "object.__class__") "__get__" = some (some (.builtin "getset_descriptor.__get__"))) &&
  (decide (PySem.W.takesIn K (.builtin "object.__class__") = some true) && decide (PySem.W.mroIn K D (.type "object") = some true)))))))
theorem excC_of {K : PySem.W.Frag} {D : Addr} (h : excCB K D = true) : ExcC K D := by
  unfold excCB at h
  simp only [Bool.and_eq_true, decide_eq_true_eq] at h
  obtain ⟨h1, h2, h3, h4, h5, h6, h7, h8⟩ := h
  exact ⟨h1, h2, h3, h4, h5, h6, h7, h8⟩
theorem ExcC.xf {K : PySem.W.Frag} {D : Addr} (C : ExcC K D) : XfC K D := ⟨C.hg, C.hk, C.hs, C.hd⟩
def supCB (K : PySem.W.Frag) (B initId : String) (bmB : List Value) (C fI : Addr) (fn : Str) : Bool :=
  PySem.W.excOver K C bmB && (decide (PySem.W.findIn K (.ref C) "__init__" = some (some (.ref fI))) && (decide (PySem.W.ks_superIn K C C "__init__" = some (some (.builtin initId))) && (decide (PySem.W.subIn K (.ref C) (.type B) = some true) &&
  (decide (PySem.W.nsIn K cStatics "thirdparty.any" = some none) && (decide (PySem.W.findIn K (.ref C) "__setattr__" = some (some (.builtin "object.__setattr__"))) && (decide (PySem.W.findIn K (.ref C) fn = some none) && (PySem.W.hasDictIn K C && PySem.W.keepIn K (.ref C))))))))
theorem supC_of {K : PySem.W.Frag} {B newId initId : String} {bmB : List Value} {C fI : Addr} {fn : Str} {nm q : Str} {N : Addr} {bs bm : List Value} {sn : List Str} {sub : List Value} {ab : Bool} {col : Option Bool} {dd : Option Addr} {k0 k1 k2 k3 k5 : Option Value}
    (h : supCB K B initId bmB C fI fn = true) (l : K.lookup C = some (excClassObj nm q C N bs bm true sn sub ab col dd k0 k1 k2 k3 k5 newId)) (t : PySem.W.excTail bmB bm = true) : SupC K B newId initId bmB C fI fn := by
  unfold supCB at h
  simp only [Bool.and_eq_true, decide_eq_true_eq] at h
  obtain ⟨h1, h2, h3, h4, h5, h6, h7, h8, h9⟩ := h
  exact ⟨⟨nm, q, N, bs, bm, sn, sub, ab, col, dd, k0, k1, k2, k3, k5, l, t⟩, h1, h2, h3, h4, h5, h6, h7, h8, h9⟩
/-- each class of the list is a class of itself alone -/
def kindsB (K : PySem.W.Frag) (ds : List Addr) : Bool := ds.all fun D => ds.all fun C => decide (PySem.W.kitOne K (.ref D) (.ref C) = some (decide (D = C)))
theorem kinds_of {K : PySem.W.Frag} {ds : List Addr} (h : kindsB K ds = true) {D C : Addr} (hD : D ∈ ds) (hC : C ∈ ds) : PySem.W.kitOne K (.ref D) (.ref C) = some (decide (D = C)) := by
  unfold kindsB at h
  rw [List.all_eq_true] at h
  have h1 := h D hD
  rw [List.all_eq_true] at h1
  exact of_decide_eq_true (h1 C hC)
/-- what each class of the list is, of one class -/
def kindB (K : PySem.W.Frag) (ds : List Addr) (c : Value) (b : Bool) : Bool := ds.all fun D => decide (PySem.W.kitOne K (.ref D) c = some b)
theorem kind_of {K : PySem.W.Frag} {ds : List Addr} {c : Value} {b : Bool} (h : kindB K ds c b = true) {D : Addr} (hD : D ∈ ds) : PySem.W.kitOne K (.ref D) c = some b := by
  unfold kindB at h
  rw [List.all_eq_true] at h
  exact of_decide_eq_true (h D hD)
end U
/-! U9: text[::-1] -/
namespace U
open PySem PySem.Spec PyProof.Rows L2
theorem rev_pick (z : Str) : (Builtin.Str.strSliceIndices none none (-1) z.length).filterMap (z.cps[·]?) = z.cps.toList.reverse := by
  show (sliceRange ((z.length : Int) - 1) (-1) (-1)).filterMap (z.cps[·]?) = _
  rw [PySem.W.krv_sliceRange, PySem.W.krv_range, List.filterMap_reverse]
  rw [show z.length = z.cps.size from rfl, PySem.W.krv_all]
def tRevS (te : TE) : TE := fun σ H Q => te σ H fun x H1 => ∃ l : List Nat, x = .str (S l) ∧ l.length ≤ sizeLine ∧ Q (.str (S l.reverse)) H1
theorem pe_revS {X : Cx} {e : Expr} {te : TE} {k : Nat} {p1 p2 p3 pos : Pos} (he : PE X e te) : PE X (.Subscript e (.Slice none none (some (.UnaryOp .USub (.Constant (.int 1) k p1) p2)) p3) pos) (tRevS te) := by
  refine ⟨fun pins s σ H Q I h => ?_⟩
  refine Subscript_ (thn (he.run pins s σ H _ I h) fun v s1 ⟨x, H1, I1, r1, q1⟩ => ?_)
  obtain ⟨l, ex, hz, q⟩ := q1
  subst ex
  obtain ⟨t, rfl⟩ := r1
  have hst : PO X (some (.UnaryOp .USub (.Constant (.int 1) k p1) p2)) (tPart (tUn (rU fun i => .int (-i)) (tC (.int 1)))) := po_some (pe_un un_neg pe_int)
  refine wpAny_Slice (thn (po_none.run pins s1 σ H1 (fun o H2 => o = none ∧ H2 = H1) I1 ⟨rfl, rfl⟩) fun vl s2 ⟨l', H2, I2, pl, el, e2⟩ => ?_)
  subst el e2
  refine thn (po_none.run pins s2 σ H2 (fun o H3 => o = none ∧ H3 = H2) I2 ⟨rfl, rfl⟩) fun vu s3 ⟨u, H3, I3, pu, eu, e3⟩ => ?_
  subst eu e3
  refine thn (hst.run pins s3 σ H3 (fun o H4 => o = some (-1) ∧ H4 = H3) I3 ⟨1, rfl, -1, rfl, rfl, rfl⟩) fun vs s4 ⟨o, H4, I4, ps, eo, e4⟩ => ?_
  subst eo e4
  have I5 : Inv X pins σ H4 { s4 with heap := s4.heap.push { cls := .type "slice", data := .fields #[vl, vu, vs] } } := I4.kept (t' := s4.toks) fun b ob q => Heap.get?_push_of_some _ q
  obtain ⟨a1, rfl, f1⟩ := IsPart.raw pl
  obtain ⟨a2, rfl, f2⟩ := IsPart.raw pu
  obtain ⟨a3, rfl, f3⟩ := IsPart.raw ps
  show wpAny (model X.prog X.w) X.A (subscriptTail e (.Slice none none (some (.UnaryOp .USub (.Constant (.int 1) k p1) p2)) p3) (.str (S l) t) (.ref s4.heap.objs.size)) (EP X pins σ Q) X.xe _
  refine tail_any (ops := [.str (S l) t, .ref s4.heap.objs.size]) (typeIs_str _ _ _) (F.slot_str_getitem.lookup) ?_ (by with_unfolding_all rfl)
  have h3 : a3.map (·.1) = some (-1) := f3
  refine wpAny_getItem_str_slice (l := a1) (u := a2) (st := a3) ⟨_, Heap.get?_push_size _ rfl, rfl, rfl⟩ (by rw [h3]; rfl) ?_
  unfold sliceMade slicePicked
  rw [h3, f1, f2]
  show Made.post (if ((-1 : Int) == 1 && (Builtin.Str.strSliceIndices none none (-1) (S l).length).length == (S l).length) = true then Made.val (.str (S l) t)
    else Made.str ⟨((Builtin.Str.strSliceIndices none none (-1) (S l).length).filterMap ((S l).cps[·]?)).toArray⟩) (EP X pins σ Q) _
  rw [if_neg (by simp), rev_pick, S_toList]
  exact ⟨by show l.reverse.toArray.size ≤ sizeLine; simpa using hz, .str (S l.reverse), H4, I5.tok _, ⟨_, rfl⟩, q⟩
end U
/-! U10: own methods by operators: in, [], []=, len, ==, != -/
namespace U
open PySem PySem.Spec PyProof.Rows L2
section
variable {X : Cx} {CX : CXT} {k : Nat} {f C : Addr} {fd : FuncData} {ps : List Str} {sp : Sp} {E : XK}
/-- the class at C has such a method -/
structure Dn (K : PySem.W.Frag) (C : Addr) (m : Str) (f : Addr) : Prop where
  at_ : PySem.W.findIn K (.ref C) m = some (some (.ref f))
  fn : PySem.W.isFn K (.ref f) = true
/-- a def runs somewhere below the body -/
theorem run_sub {A : Around} {pins : List (Addr × Obj)} {σ : L2.St} {H : Hp} {s : Shared} {Q : VK} {us : List Value} {vs : List V} (F : FnOk X.prog X.w X.K X.mg X.base CX k f fd ps sp) (hr : Room k A) (hA : A.frames = X.A.frames) (hb : Binds X.K fd ps [])
    (hx : Passes CX X E) (I : Inv X pins σ H s) (r : Vals vs us) (h : sp vs H Q E) : wpAny (model X.prog X.w) A (call (.ref f) us) (EP X pins σ Q) X.xe s := by
  have e := I.env0
  have e0 : Env0 X.prog X.w X.K X.mg X.base A X.stack s H := ⟨hA.trans e.frames, e.mod, e.bs, e.bsz, e.funs, e.frf, e.hok, e.bare⟩
  have hl : us.length = ps.length := by rw [← r.length]; exact F.len _ _ _ _ h
  have hB : BindsTo s fd ⟨us, []⟩ (ps.zip us) := by
    have := hb s us I.kIn (by simpa using hl)
    simpa using this
  refine wpAny_call (codeAny_mono (F.run A X.stack s H ⟨us, []⟩ us vs Q E hr e0 hB r h) fun rr s' hq => ?_)
  cases rr with
  | error e => exact hx pins σ H s e s' I hq
  | ok fl => cases fl with
    | ret u => exact I.after hq
    | next => exact False.elim hq
    | brk => exact False.elim hq
    | cont => exact False.elim hq
theorem inst_at {pins : List (Addr × Obj)} {σ : L2.St} {H : Hp} {s : Shared} {a dx : Addr} {fs : List (Str × V)} (I : Inv X pins σ H s) (h : H a = some (.ins C dx fs)) : ∃ od, PySem.W.InstAt s.heap a (PySem.W.instObj C dx) C (some od) := by
  obtain ⟨mA, J, _⟩ := ins_get I.hok h
  obtain ⟨od, J, _⟩ := J.look
  exact ⟨od, J⟩
/-- the answer of x in o, o of the class at C -/
def rInO (C : Addr) (sp : Sp) (E : XK) (g : Bool → Bool) : R2 := fun x y H Q => ∃ a dx fs, y = .ref a ∧ H a = some (.ins C dx fs) ∧ sp [.ref a, x] H (fun v H' => ∃ b, v = .bl b ∧ Q (.bl (g b)) H') E
theorem op_inO (d : Dn X.K C "__contains__" f) (F : FnOk X.prog X.w X.K X.mg X.base CX k f fd ps sp) (hr : Room k X.A) (hb : Binds X.K fd ps []) (hx : Passes CX X E) : OpR X (compareOp .In) (rInO C sp E id) := by
  intro pins s σ H x y u v Q I rx ry h
  obtain ⟨a, dx, fs, rfl, ha, h⟩ := h
  cases ry
  obtain ⟨od, J⟩ := inst_at I ha
  obtain ⟨m, hF⟩ := I.fr
  refine PySem.W.in_K hF I.ok.mod.kin J d.at_ d.fn (wpAny_mono (run_sub (us := [.ref a, u]) (vs := [.ref a, _]) F hr rfl hb hx I (.cons rfl (.cons rx .nil)) h) (fun w s1 z => ?_) fun _ _ z => z)
  obtain ⟨v, H1, I1, rv, b, rfl, q⟩ := z
  cases rv
  exact wpAny_truthy_bool ⟨.bl b, H1, I1, rfl, q⟩
theorem op_notInO (d : Dn X.K C "__contains__" f) (F : FnOk X.prog X.w X.K X.mg X.base CX k f fd ps sp) (hr : Room k X.A) (hb : Binds X.K fd ps []) (hx : Passes CX X E) : OpR X (compareOp .NotIn) (rInO C sp E not) := by
  intro pins s σ H x y u v Q I rx ry h
  obtain ⟨a, dx, fs, rfl, ha, h⟩ := h
  cases ry
  obtain ⟨od, J⟩ := inst_at I ha
  obtain ⟨m, hF⟩ := I.fr
  refine PySem.W.notIn_K hF I.ok.mod.kin J d.at_ d.fn (wpAny_mono (run_sub (us := [.ref a, u]) (vs := [.ref a, _]) F hr rfl hb hx I (.cons rfl (.cons rx .nil)) h) (fun w s1 z => ?_) fun _ _ z => z)
  obtain ⟨v, H1, I1, rv, b, rfl, q⟩ := z
  cases rv
  exact wpAny_truthy_bool ⟨.bl (!b), H1, I1, rfl, q⟩
/-- o[i], o of the class at C -/
def tIxO (C : Addr) (sp : Sp) (E : XK) (ta tb : TE) : TE := fun σ H Q => ta σ H fun x H1 => tb σ H1 fun y H2 => ∃ a dx fs, x = .ref a ∧ H2 a = some (.ins C dx fs) ∧ sp [.ref a, y] H2 Q E
theorem pe_ixO {a b : Expr} {ta tb : TE} {pos : Pos} (d : Dn X.K C "__getitem__" f) (fi : PySem.W.fnIn X.K f = true) (F : FnOk X.prog X.w X.K X.mg X.base CX k f fd ps sp) (hr : Room (k + 1) X.A) (hb : Binds X.K fd ps []) (hx : Passes CX X E) (ha : PE X a ta) (hi : PE X b tb)
    (hsl : ∀ x i, subscripted b true (.ref x) i = runValue (.builtin "lifetime.subscript" ⟨[.ref x, i], []⟩) := by intro _ _; rfl) : PE X (.Subscript a b pos) (tIxO C sp E ta tb) := by
  refine ⟨fun pins s σ H Q I h => ?_⟩
  refine Subscript_ (binT ha hi I (R := fun x y H2 => ∃ a dx fs, x = .ref a ∧ H2 a = some (.ins C dx fs) ∧ sp [.ref a, y] H2 Q E) h fun v u s2 x y H2 I2 rx ry q => ?_)
  obtain ⟨a, dx, fs, rfl, ea, q⟩ := q
  cases rx
  obtain ⟨od, J⟩ := inst_at I2 ea
  obtain ⟨m, hF⟩ := I2.fr
  exact PySem.W.sub_K hF I2.ok.mod.kin J d.at_ fi d.fn (run_sub (us := [.ref a, u]) (vs := [.ref a, _]) F hr.in1 rfl hb hx I2 (.cons rfl (.cons ry .nil)) q) (hsl _ _)
/-- o[i] = v, o of the class at C -/
def rSetO (C : Addr) (sp : Sp) (E : XK) : TSet := fun o i v H Q => ∃ a dx fs, o = .ref a ∧ H a = some (.ins C dx fs) ∧ sp [.ref a, i, v] H (fun _ H' => Q H') E
theorem set_own (d : Dn X.K C "__setitem__" f) (hq : PySem.W.noSeq X.K C = true) (F : FnOk X.prog X.w X.K X.mg X.base CX k f fd ps sp) (hr : Room k X.A) (hb : Binds X.K fd ps []) (hx : Passes CX X E) : PSet X (rSetO C sp E) := by
  intro pins s σ H o i v ov iv u Q I ro ri rv h
  obtain ⟨a, dx, fs, rfl, ha, h⟩ := h
  cases ro
  obtain ⟨od, J⟩ := inst_at I ha
  have kin := I.kIn
  unfold setItem sequenceKey
  refine wpAny_holding (wpAny_bind (wpAny_bind (J.type.here ?_)))
  refine wpAny_bind ((PySem.W.anyM_none kin hq).here ?_)
  rw [if_pos (show (!false) = true from rfl)]
  refine wpAny_pure (wpAny_bind (PySem.W.special_fn kin J d.at_ (beq_iff_eq.mp d.fn) (wpAny_mono (run_sub (us := [.ref a, iv, u]) (vs := [.ref a, _, _]) F hr rfl hb hx I (.cons rfl (.cons ri (.cons rv .nil))) h) (fun w s1 z => ?_) fun _ _ z => z)))
  obtain ⟨v, H1, I1, rv, q⟩ := z
  exact wpAny_pure ⟨H1, I1, q⟩
/-- len(o) -/
theorem call_lenO (d : Dn X.K C "__len__" f) (F : FnOk X.prog X.w X.K X.mg X.base CX k f fd ps sp) (hr : Room (k + 1) X.A) (hb : Binds X.K fd ps []) (hx : Passes CX X E) :
    CallR X (.builtin "len") (fun xs H Q => ∃ a dx fs, xs = [.ref a] ∧ H a = some (.ins C dx fs) ∧ sp [.ref a] H (fun v H' => ∃ n : Int, v = .int n ∧ 0 ≤ n ∧ n < 2 ^ 63 ∧ Q (.int n) H') E) := by
  intro pins s σ H xs us Q I r h
  obtain ⟨a, dx, fs, rfl, ha, h⟩ := h
  obtain ⟨u, rfl, ru⟩ := vals1 r
  cases ru
  obtain ⟨od, J⟩ := inst_at I ha
  obtain ⟨m, hF⟩ := I.fr
  refine PySem.W.len_K hF I.ok.mod.kin J d.at_ d.fn (wpAny_mono (run_sub (us := [.ref a]) (vs := [.ref a]) F hr.in1 rfl hb hx I (.cons rfl .nil) h) (fun w s1 z => ?_) fun _ _ z => z)
  obtain ⟨v, H1, I1, rv, n, rfl, n0, n1, q⟩ := z
  obtain ⟨t, rfl⟩ := rv
  exact ⟨⟨n0, n1⟩, .int n, H1, I1.tok _, ⟨_, rfl⟩, q⟩
end
end U
/-! U11: own == and !=, == of dicts, sorted texts of any number, keyword calls of methods -/
namespace U
open PySem PySem.Spec PyProof.Rows L2
section
variable {X : Cx} {CX : CXT} {k : Nat} {f C : Addr} {fd : FuncData} {ps : List Str} {sp : Sp} {E : XK}
theorem type_here {pins : List (Addr × Obj)} {σ : L2.St} {H : Hp} {s : Shared} {x : V} {u t : Value} (I : Inv X pins σ H s) (rx : RelV x u) (ty : TyX X.K H x t) : PySem.W.Looks (model X.prog X.w) s.heap (typeOf u) t := by
  obtain ⟨P, kt, p, _⟩ := kit_of I rx ty
  exact kt.ty _ _ I.kIn p
/-- o == y, o of the class at C -/
def rEqO (K : PySem.W.Frag) (C : Addr) (sp : Sp) (E : XK) (g : Bool → Bool) : R2 := fun x y H Q => ∃ a dx fs t, x = .ref a ∧ H a = some (.ins C dx fs) ∧ TyX K H y t ∧ PySem.W.notFirst K C t = true ∧ sp [.ref a, y] H (fun v H' => ∃ b, v = .bl b ∧ Q (.bl (g b)) H') E
theorem op_eqO (d : Dn X.K C "__eq__" f) (F : FnOk X.prog X.w X.K X.mg X.base CX k f fd ps sp) (hr : Room k X.A) (hb : Binds X.K fd ps []) (hx : Passes CX X E) : OpR X (compareOp .Eq) (rEqO X.K C sp E id) := by
  intro pins s σ H x y u v Q I rx ry h
  obtain ⟨a, dx, fs, t, rfl, ha, ty, hn, h⟩ := h
  cases rx
  obtain ⟨od, J⟩ := inst_at I ha
  obtain ⟨m, hF⟩ := I.fr
  refine PySem.W.cmp_K (op := .Eq) (tb := t) hr.units0 hF I.ok.mod.kin J (type_here I ry ty) hn d.at_ d.fn (wpAny_mono (run_sub (us := [.ref a, v]) (vs := [.ref a, y]) F hr rfl hb hx I (.cons rfl (.cons ry .nil)) h) (fun w s1 z => ?_) fun _ _ z => z)
  obtain ⟨v, H1, I1, rv, b, rfl, q⟩ := z
  cases rv
  exact ⟨.bl b, H1, I1, rfl, q⟩
/-- what != by object's own asks -/
structure NeO (K : PySem.W.Frag) (C : Addr) : Prop where
  at_ : PySem.W.findIn K (.ref C) "__ne__" = some (some (.builtin "object.__ne__"))
  sub : PySem.W.subIn K (.ref C) (.type "object") = some true
theorem ne_run {A : Around} {prog : Program} {w : World} {K : PySem.W.Frag} {a : Addr} {ox : Obj} {od : Option Obj} {v : Value} {s : Shared} {Er : Value → Shared → Prop} {Q : Fin → Shared → Prop} (kin : K.In s.heap) (J : PySem.W.InstAt s.heap a ox C od) (d : Dn K C "__eq__" f) (hu : A.units < cLine)
    (h : wpAny (model prog w) A (call (.ref f) [.ref a, v]) (fun r s' => ∃ b, r = .bool b ∧ Q (.done (.ret (.bool (!b)))) s') Er s) : wpAny (model prog w) A (Builtin.«object.__ne__» ⟨[.ref a, v], []⟩) Q Er s := by
  unfold Builtin.«object.__ne__»
  refine wpAny_bind (m := slotArgs "__ne__" 1 _) (wpAny_pure ?_)
  refine wpAny_bind (wpAny_cRoomFor hu ?_)
  refine wpAny_bind (m := callSpecialIfBound? (.ref a) (Str.ofString "__eq__") [v]) (PySem.W.ifBound_K kin J d.at_ d.fn (wpAny_mono h (fun r s1 hr => ?_) fun _ _ y => y))
  obtain ⟨b, rfl, q⟩ := hr
  exact wpAny_bind (m := truthy (.bool b)) (wpAny_truthy_bool (wpAny_pure q))
theorem op_neO (n : NeO X.K C) (d : Dn X.K C "__eq__" f) (F : FnOk X.prog X.w X.K X.mg X.base CX k f fd ps sp) (hr : Room (k + 1) X.A) (hb : Binds X.K fd ps []) (hx : Passes CX X E) : OpR X (compareOp .NotEq) (rEqO X.K C sp E not) := by
  intro pins s σ H x y u v Q I rx ry h
  obtain ⟨a, dx, fs, t, rfl, ha, ty, hn, h⟩ := h
  cases rx
  obtain ⟨od, J⟩ := inst_at I ha
  have kin := I.kIn
  have hrun := run_sub (A := X.A.in1) (us := [.ref a, v]) (vs := [.ref a, y]) F hr.in1 rfl hb hx I (.cons rfl (.cons ry .nil)) h
  have hT := type_here I ry ty
  have hcall : wpAny (model X.prog X.w) X.A (call (.builtin "object.__ne__") [.ref a, v]) (fun v s' => ∃ b, v = .bool b ∧ EP X pins σ Q v s') X.xe s := by
    refine wpAny_call (codeAny_call_builtin PySem.F.cmp_object.ne.plain PySem.F.cmpEntry_ne (@PySem.W.check_slot (model X.prog X.w) _ _ s "object.__ne__" "object" "__ne__" (.ref a) [v] [] _ PySem.F.cmpKind_ne PySem.F.cmpSplit_ne (J.type.andThen (PySem.W.looks_subIn kin n.sub)) (PySem.F.cmpArgs_ne _ _) ?_))
    refine ne_run kin J d hr.in1.units0 (wpAny_mono hrun (fun r s1 z => ?_) fun _ _ z => z)
    obtain ⟨v, H1, I1, rv, b, rfl, q⟩ := z
    cases rv
    exact ⟨b, rfl, !b, rfl, .bl (!b), H1, I1, rfl, q⟩
  have one : wpAny (model X.prog X.w) X.A (tryCompare (.ref a) "__ne__" v) (fun r s' => ∃ v, r = some v ∧ EP X pins σ Q v s') X.xe s := by
    unfold tryCompare
    refine wpAny_bind ?_
    simp only [callSpecialIfBound?, bindSpecialIfBound?]
    refine wpAny_holding (wpAny_bind (wpAny_bind (wpAny_bind (J.type.here ((PySem.W.looks_findIn kin n.at_).here ?_)))))
    simp only [PySem.F.cmp_object.ne.bind]
    refine wpAny_bind (wpAny_askSetting (wpAny_ite ?_))
    have fin : wpAny (model X.prog X.w) X.A (call (.builtin "object.__ne__") ([.ref a] ++ [v]) >>= fun v => pure (some v)) (fun r s' => wpAny (model X.prog X.w) X.A (match r with | some Value.notImplemented => pure none | none => pure none | some z => pure (some z)) (fun r s' => ∃ v, r = some v ∧ EP X pins σ Q v s') X.xe s') X.xe s := by
      refine wpAny_bind (wpAny_mono hcall (fun r s1 z => ?_) fun _ _ z => z)
      obtain ⟨b, rfl, q⟩ := z
      exact wpAny_pure (wpAny_pure ⟨_, rfl, q⟩)
    split
    · exact wpAny_bind (wpAny_pure (wpAny_pure fin))
    · exact wpAny_tryCatch (wpAny_bind (wpAny_pure (wpAny_pure fin)))
  show wpAny _ _ (richCompare .NotEq (.ref a) v) _ _ _
  unfold richCompare
  simp only [oneThing_ref]
  refine wpAny_holding (wpAny_bind (wpAny_cRoomFor hr.units0 ?_))
  refine wpAny_bind (J.type.here (wpAny_bind (hT.here ?_)))
  split
  · rename_i q
    have e : PySem.W.subIn X.K t (.ref C) = some false := by
      rcases Bool.or_eq_true_iff.mp hn with e | e
      · rw [beq_iff_eq.mp e] at q; simp at q
      · exact beq_iff_eq.mp e
    refine wpAny_bind ((PySem.W.looks_subIn kin e).here ?_)
    simp only [Bool.false_eq_true, if_false]
    refine wpAny_bind (wpAny_mono one (fun r s' z => ?_) fun _ _ e => e)
    obtain ⟨v, rfl, hq⟩ := z
    exact wpAny_pure hq
  · refine wpAny_bind (wpAny_pure ?_)
    simp only [Bool.false_eq_true, if_false]
    refine wpAny_bind (wpAny_mono one (fun r s' z => ?_) fun _ _ e => e)
    obtain ⟨v, rfl, hq⟩ := z
    exact wpAny_pure hq
/-! ### == of dicts of flat values -/
def eqD (ks ls : List (Key × V)) : Bool := ks.all fun p => match valV ls p.1 with | some v => eqV p.2 v | none => false
theorem hits_eq {A : Around} {s : Shared} {kvs : List (Key × V)} {vb : List (Key × Value)} (rb : KV kvs vb) (fb : ∀ p ∈ kvs, flatV p.2 = true) {ks : List (Key × V)} {va : List (Key × Value)} (ra : KV ks va) :
    (∀ p ∈ ks, flatV p.2 = true) → PySem.W.KeqHits A s vb va (eqD ks kvs) := by
  unfold KV at ra
  induction ra with
  | nil => intro _; exact .nil
  | @cons p q ps qs h t ih =>
    intro hp
    obtain ⟨h1, h2⟩ := h
    obtain ⟨k, v⟩ := q
    have h1' : p.1 = k := h1
    have rr := rb.val p.1
    cases e : valV kvs p.1 with
    | none =>
      rw [e] at rr
      have hn := RelO.none_of rr
      rw [h1'] at hn
      have : eqD (p :: ps) kvs = false := by simp [eqD, e]
      rw [this]
      exact .miss hn
    | some z =>
      rw [e] at rr
      obtain ⟨y, hy, ry⟩ := rr.some_of
      rw [h1'] at hy
      have : eqD (p :: ps) kvs = (eqV p.2 z && eqD ps kvs) := by simp [eqD, e]
      rw [this]
      have fz : flatV z = true := by
        have : ∃ m ∈ kvs, m.2 = z := by
          unfold valV at e
          obtain ⟨m, hm, rfl⟩ := Option.map_eq_some_iff.mp e
          exact ⟨m, List.mem_of_find?_eq_some hm, rfl⟩
        obtain ⟨m, hm, rfl⟩ := this
        exact fb m hm
      exact .hit hy (eqAt_V h2 ry (hp p List.mem_cons_self) fz) (ih fun p' hm => hp p' (List.mem_cons_of_mem _ hm))
def rEqDict : R2 := fun x y H Q => ∃ a b ks ls, x = .ref a ∧ y = .ref b ∧ H a = some (.dK ks) ∧ H b = some (.dK ls) ∧ (∀ p ∈ ks, flatV p.2 = true) ∧ (∀ p ∈ ls, flatV p.2 = true) ∧ Q (.bl (ks.length == ls.length && eqD ks ls)) H
theorem op_eqDict (hu : X.A.units < cLine) : OpR X (compareOp .Eq) rEqDict := by
  intro pins s σ H x y v u Q I rx ry h
  obtain ⟨a, b, ks, ls, rfl, rfl, ea, eb, fa, fb, q⟩ := h
  obtain rfl : v = Value.ref a := rx
  obtain rfl : u = Value.ref b := ry
  obtain ⟨_, ya, va, ra, da⟩ := (show ObjOk X.prog X.w H s.heap a (.dK ks) from I.hok a _ ea)
  obtain ⟨_, yb, vb, rb, db⟩ := (show ObjOk X.prog X.w H s.heap b (.dK ls) from I.hok b _ eb)
  refine PySem.W.keq_eq (knd := mixKind X.prog X.w) (r := eqD ks ls) ya yb da db hu (fun _ => hits_eq rb fb ra fa) (fin_bl I q ?_)
  have e1 : ks.length = va.length := Paired.length ra
  have e2 : ls.length = vb.length := Paired.length rb
  rw [e1, e2]
/-! ### sorted texts, any number of them -/
theorem cr_sortedA : CallR X (.builtin "sorted") (fun vs H Q => ∃ (a : Addr) (xs : List Str), vs = [V.ref a] ∧ SqL X.K H a (xs.map V.str) ∧ ∀ (ys : List Str) (p : Addr), ys.Perm xs → sortedS ys = true → H p = none → Q (.ref p) (upd H p (.lst (ys.map V.str)))) := by
  intro pins s σ H vs us Q I r h
  obtain ⟨a, xs, rfl, hs, q⟩ := h
  obtain ⟨its, rv, hl, hz⟩ := I.list hs
  rw [Vals.ref1 r]
  rw [List.length_map] at hz
  have hlen := rv.length
  rw [List.length_map] at hlen
  refine PyProof.Rows.sorted_strsAny hl.isList rv.strs (by rw [← hlen]; exact hz) fun out ys h1 h2 h3 => ?_
  obtain ⟨ep, he⟩ := PyProof.Rows.sortedAll_at s.heap its out
  refine ⟨.ref _, _, I.laid (t' := s.toks) (fun _ _ => PyProof.Rows.sortedAll_old) (Nat.le_succ _) (show ObjOk X.prog X.w _ _ _ (.lst (ys.map V.str)) from ⟨?_, out.toList, ep, vals_of_strs h1, he⟩), rfl, q ys _ h2 h3 (I.hok.fresh (Nat.le_succ _))⟩
  rw [List.length_map, h2.length_eq]
  exact hz
end
end U
/-! U12: methods with defaults and keywords -/
namespace U
open PySem PySem.Spec PyProof.Rows L2
section
variable {P : Program} {w : World} {K : PySem.W.Frag} {mg : Str → Option Value} {base : Heap} {x qual : Str} {params : Arguments} {body : List Stmt} {scope : Scope} {dvs : List V} {kws : List (Str × V)} {f : Addr} {fd : FuncData}
/-- a def with defaults of which nothing leaves -/
theorem okD {N ps : List Str} {k : Nat} {sp : Sp} (F : FunD K x qual params body scope dvs kws f fd) (Sc : FnScope N ps scope) (len : ∀ vs H Q E, sp vs H Q E → vs.length = ps.length)
    (hb : ∀ (cdv : Value) (A : Around) (fr : List Env) (s : Shared) (H : Hp) (vs : List V) (Q : VK) (E : XK), Room k (A.deeper (envOfC qual scope s.heap.objs.size f cdv)) → sp vs H Q E →
      ∃ t, PSs (cxOf CX0 P w K mg base N qual scope f cdv A fr s H E).nox body t ∧ t { nx := fun _ H' => Q .non H', rt := Q } (start N vs) H) : FnOk P w K mg base CX0 (k + 1) f fd ps sp :=
  F.ok Sc len fun cdv A fr s H vs Q E hr h => by
    obtain ⟨t, d, q⟩ := hb cdv A fr s H vs Q E hr h
    exact ⟨t, d.nox, q⟩
end
section
variable {X : Cx} {CX : CXT} {k n : Nat} {f C : Addr} {fd : FuncData} {ps ks : List Str} {sp : Sp} {E : XK} {m : Str} {pos apos : Pos} {e o : Expr} {es : List Expr} {kws : List Keyword} {ta : TE} {t tk : TA} {g : List Value → List Value → List Value} {gV : List V → List V → List V}
/-- o.m(e, .., k = v, ..) -/
def tMethN (C : Addr) (m : Str) (n j : Nat) (sp : Sp) (gV : List V → List V → List V) (E : XK) (ta : TE) (t tk : TA) : TE := fun σ H Q => ta σ H fun x H1 => ∃ a dx fs, x = .ref a ∧ H1 a = some (.ins C dx fs) ∧ fs.lookup m = none ∧
  t σ H1 fun vs H2 => tk σ H2 fun zs H3 => vs.length = n ∧ zs.length = j ∧ sp (gV (.ref a :: vs) zs) H3 Q E
theorem pe_methN {pl : Sem Bool} (he : PE X o ta) (c : Cls X.K C) (hm : Meth X.K C m f) (F : FnOk X.prog X.w X.K X.mg X.base CX k f fd ps sp) (hr : Room k X.A) (hb : KBn X.K fd ps (n + 1) ks g gV) (hx : Passes CX X E) (ha : PA X (e :: es) t) (hkw : PK X kws tk)
    (hall : (backToKw pos (keywordEach kws X.env)).all (·.1.isSome) = true := by rfl) (hks : (backToKw pos (keywordEach kws X.env)).filterMap (·.1) = ks := by rfl)
    (hst : starEach (e :: es) X.env = (false, eval e X.env) :: starEach es X.env := by rfl) (hpl : ((backTo pos (starEach (e :: es) X.env)).any (·.1) || (backToKw pos (keywordEach kws X.env)).any (·.1.isNone)) = false := by rfl)
    (ht : eval (.Call (.Attribute o m apos) (e :: es) kws pos) X.env = (do
      let ov ← eval o X.env
      standAt apos.atName
      let (f, first) ← holding [ov] (getMethod ov m pl)
      callWith pos f first (backTo pos (starEach (e :: es) X.env)) (backToKw pos (keywordEach kws X.env))) := by rfl) :
    PE X (.Call (.Attribute o m apos) (e :: es) kws pos) (tMethN C m n ks.length sp gV E ta t tk) := by
  refine ⟨fun pins s σ H Q I h => ?_⟩
  refine PySem.W.methodCall_KW (pl := pl) (thn (he.run pins s σ H _ I h) fun u s1 ⟨x, H1, I1, rx, a, dx, fs, ex, ea, l, q⟩ => ?_) ht
  subst ex
  obtain rfl : u = Value.ref a := rx
  refine getmeth_ok I1 ea c hm l ?_
  refine PySem.W.callWith_KW (first := [.ref a]) (h₀ := X.base) I.ok.mod.kin hm.kp hall (thn (ha.run pos pins s1 σ H1 _ I1 q) fun us s2 ⟨vs, H2, I2, r, q2⟩ => ?_) hpl hst
  refine thn (hkw.run pos pins s2 σ H2 _ I2 q2) fun ws s3 ⟨zs, H3, I3, rz, l1, l2, q3⟩ => ⟨I3.kIn, ?_⟩
  rw [hks]
  exact run_fnN (us := .ref a :: us) (vs := .ref a :: vs) F hr hb hx I3 (.cons rfl r) rz (congrArg Nat.succ l1) l2 q3
end
theorem Sm_int30 {i : Int} (h : i.natAbs < 10 ^ 31) : Sm (.int i) 32 0 := by
  refine ⟨?_, rfl, Nat.le_refl _, ?_⟩
  · simp only [PyData.showable, decide_eq_true_eq]
    exact lg (Nat.lt_trans h (by decide))
  · have e := PySem.int_text_length_le10 (k := 31) (by decide) h
    show (Str.ofString (toString i)).length ≤ 32
    rw [PySem.ofString_length]; exact e
end U
namespace U
open PySem PySem.Spec PyProof.Rows L2
section
variable {prog : Program} {w : World} {A : Around} {E : Value → Shared → Prop} {s : Shared}
/-- min of two texts is one of them -/
theorem min_texts {a b : Str} {t u : Tok} {Q : Value → Shared → Prop} (hh : A.handled = none)
    (h : ∀ v h' tk, v = Value.str a t ∨ v = Value.str b u → (∀ c o, s.heap.get? c = some o → h'.get? c = some o) → Q v { s with heap := h', toks := tk }) :
    wpAny (model prog w) A (call (.builtin "min") [.str a t, .str b u]) Q E s := by
  have hT : (s.heap.push { cls := .type "tuple", data := .seq #[.str a t, .str b u] }).IsTuple s.heap.objs.size #[.str a t, .str b u] := ⟨_, Heap.get?_push_size _ rfl, rfl, 0, rfl⟩
  have hsz : (s.heap.push { cls := .type "tuple", data := .seq #[.str a t, .str b u] }).objs.size = s.heap.objs.size + 1 := Heap.size_push ..
  let at_ : Nat → Str := fun i => if i = 0 then a else b
  have hP : ∀ i v, (#[Value.str a t, Value.str b u])[i]? = some v → ∃ t, v = Value.str (at_ i) t := by
    intro i v e
    match i, e with
    | 0, e => simp at e; exact ⟨t, e.symm⟩
    | 1, e => simp at e; exact ⟨u, e.symm⟩
    | i + 2, e => simp at e
  have hcmp : CmpOf prog w A.in1 .Lt (fun i v => (#[Value.str a t, Value.str b u])[i]? = some v) (fun i j => decide ((at_ i).cps.toList < (at_ j).cps.toList)) := by
    intro i j vi vj s' Q' E' hi hj hq
    obtain ⟨ti, rfl⟩ := hP i vi hi
    obtain ⟨tj, rfl⟩ := hP j vj hj
    show wpAny _ _ (compareOp .Lt _ _) _ _ _
    exact lt_str hq
  refine call_min_two (wpAny_pyIter_tuple hT ?_)
  refine ⟨_, [_, s.heap.objs.size], [_], _, _, _, _, rfl, Walks.tuple (A := A.in1) hh _ s.heap.objs.size (by rw [hsz]; exact Nat.ne_of_lt (Nat.lt_succ_self _)) #[.str a t, .str b u],
    ⟨⟨_, Heap.get?_push_size _ rfl, rfl, rfl⟩, hT.push _⟩, fun c hc => ?_, by simp, hcmp, fun v h' tk hv hk => ?_⟩
  · show c < ((s.heap.push _).push _).objs.size
    rw [Heap.size_push, hsz]
    rcases List.mem_cons.mp hc with rfl | hc
    · rw [hsz]; exact Nat.lt_succ_self _
    · rcases List.mem_cons.mp hc with rfl | hc
      · exact Nat.lt_succ_of_lt (Nat.lt_succ_self _)
      · cases hc
  · refine h v h' tk ?_ fun c o e => ?_
    · generalize argBest _ _ = n at hv
      match n, hv with
      | 0, e => left; exact (Option.some.inj e).symm
      | 1, e => right; exact (Option.some.inj e).symm
      | n + 2, e => simp at e
    · refine hk c o (fun hm => ?_) (Heap.get?_push_of_some _ (Heap.get?_push_of_some _ e))
      rcases List.mem_cons.mp hm with e1 | hm
      · have := Heap.lt_size e; rw [e1, hsz] at this; exact Nat.lt_irrefl _ (Nat.lt_of_succ_lt this)
      · cases hm
end
section
variable {X : Cx}
theorem call_minS (hc : X.calm = true) : CallR X (.builtin "min") (fun xs H Q => ∃ i j, xs = [.str i, .str j] ∧ Q (.str i) H ∧ Q (.str j) H) := by
  intro pins s σ H xs us Q I r h
  obtain ⟨i, j, rfl, q1, q2⟩ := h
  obtain ⟨u, w', rfl, ⟨t, rfl⟩, ⟨t', rfl⟩⟩ := vals2 r
  refine min_texts (I.ok.hd hc) fun v h' tk hv k => ?_
  rcases hv with rfl | rfl
  · exact ⟨.str i, H, I.kept k, ⟨_, rfl⟩, q1⟩
  · exact ⟨.str j, H, I.kept k, ⟨_, rfl⟩, q2⟩
end
end U
/-! TB: tables from texts to ints, as dicts; sorted keys; stretches -/
namespace U
open PySem PySem.Spec PyProof.Rows L2
abbrev Tab := List (List Nat × Int)
def getT (t : Tab) (k : List Nat) : Option Int := (t.find? fun p => decide (p.1 = k)).map (·.2)
def putT (t : Tab) (k : List Nat) (v : Int) : Tab := if (t.any fun p => decide (p.1 = k)) = true then t.map (fun p => if p.1 = k then (p.1, v) else p) else t ++ [(k, v)]
def dropT (t : Tab) (k : List Nat) : Tab := t.filter fun p => decide (p.1 ≠ k)
def keysT (t : Tab) : List (List Nat) := t.map (·.1)
def ent (p : List Nat × Int) : Key × V := (Sum.inr (S p.1), .int p.2)
def tabV (t : Tab) : List (Key × V) := t.map ent
theorem tabV_len (t : Tab) : (tabV t).length = t.length := by simp [tabV]
theorem key_eq {a b : List Nat} : ((Sum.inr (S a) : Key) = Sum.inr (S b)) ↔ a = b := by
  constructor
  · intro h; exact S_inj.mp (Sum.inr.inj h)
  · rintro rfl; rfl
theorem val_tab (t : Tab) (k : List Nat) : valV (tabV t) (Sum.inr (S k) : Key) = (getT t k).map V.int := by
  induction t with
  | nil => rfl
  | cons p t ih =>
    by_cases h : p.1 = k
    · rw [show tabV (p :: t) = ent p :: tabV t from rfl, valV_pos (p := ent p) (key_eq.mpr h)]
      simp [getT, List.find?_cons, h, ent]
    · rw [show tabV (p :: t) = ent p :: tabV t from rfl, valV_neg (p := ent p) (fun e => h (key_eq.mp e)), ih]
      simp [getT, List.find?_cons, h]
theorem any_tab (t : Tab) (k : List Nat) : ((tabV t).any fun kv => decide (kv.1 = (Sum.inr (S k) : Key))) = t.any fun p => decide (p.1 = k) := by
  induction t with
  | nil => rfl
  | cons p t ih =>
    rw [show tabV (p :: t) = ent p :: tabV t from rfl, List.any_cons, List.any_cons, ih]
    congr 1
    exact decide_eq_decide.mpr key_eq
theorem put_tab (t : Tab) (k : List Nat) (v : Int) : putK (tabV t) (Sum.inr (S k) : Key) (.int v) = tabV (putT t k v) := by
  unfold putK putT
  rw [any_tab]
  split
  · simp only [tabV, List.map_map]
    refine List.map_congr_left fun p _ => ?_
    by_cases h : p.1 = k
    · simp [ent, h]
    · have : ¬ (ent p).1 = (Sum.inr (S k) : Key) := fun e => h (key_eq.mp e)
      simp [h, this]
  · simp [tabV, ent]
theorem drop_tab (t : Tab) (k : List Nat) : dropK (tabV t) (Sum.inr (S k) : Key) = tabV (dropT t k) := by
  unfold dropK dropT tabV
  rw [List.filter_map]
  congr 1
  refine List.filter_congr fun p _ => ?_
  show decide ((ent p).1 ≠ _) = _
  exact decide_eq_decide.mpr (not_congr key_eq)
theorem getT_some {t : Tab} {k : List Nat} {v : Int} (h : getT t k = some v) : (k, v) ∈ t := by
  unfold getT at h
  obtain ⟨p, hp, rfl⟩ := Option.map_eq_some_iff.mp h
  have h1 := List.find?_some hp
  have h2 := List.mem_of_find?_eq_some hp
  have : p.1 = k := of_decide_eq_true h1
  rw [← this]
  exact h2
theorem getT_none {t : Tab} {k : List Nat} : getT t k = none ↔ k ∉ keysT t := by
  unfold getT keysT
  simp only [Option.map_eq_none_iff, List.find?_eq_none, decide_eq_true_eq, List.mem_map, not_exists, not_and]
theorem getT_mem {t : Tab} (nd : (keysT t).Nodup) {p : List Nat × Int} (h : p ∈ t) : getT t p.1 = some p.2 := by
  induction t with
  | nil => cases h
  | cons q t ih =>
    rw [show keysT (q :: t) = q.1 :: keysT t from rfl, List.nodup_cons] at nd
    rcases List.mem_cons.mp h with rfl | h
    · simp [getT, List.find?_cons]
    · have hne : ¬ q.1 = p.1 := fun e => nd.1 (e ▸ List.mem_map.mpr ⟨p, h, rfl⟩)
      have := ih nd.2 h
      simp only [getT, List.find?_cons, hne, decide_false] at this ⊢
      exact this
theorem getT_isSome {t : Tab} {k : List Nat} : (getT t k).isSome = decide (k ∈ keysT t) := by
  cases e : getT t k with
  | none => simp [getT_none.mp e]
  | some v =>
    have : k ∈ keysT t := List.mem_map.mpr ⟨_, getT_some e, rfl⟩
    simp [this]
theorem keys_put (t : Tab) (k : List Nat) (v : Int) : keysT (putT t k v) = if k ∈ keysT t then keysT t else keysT t ++ [k] := by
  unfold putT
  have : (t.any fun p => decide (p.1 = k)) = decide (k ∈ keysT t) := by
    rw [Bool.eq_iff_iff, decide_eq_true_iff]
    simp [keysT]
  rw [this]
  by_cases h : k ∈ keysT t
  · rw [if_pos (by simpa using h), if_pos h]
    unfold keysT
    rw [List.map_map]
    refine List.map_congr_left fun p _ => ?_
    by_cases e : p.1 = k
    · simp [e]
    · simp [e]
  · rw [if_neg (by simpa using h), if_neg h]
    simp [keysT]
theorem nd_put {t : Tab} (nd : (keysT t).Nodup) (k : List Nat) (v : Int) : (keysT (putT t k v)).Nodup := by
  rw [keys_put]
  split
  · exact nd
  · rename_i h
    rw [List.nodup_append]
    refine ⟨nd, by simp, ?_⟩
    intro a ha b hb e
    rw [List.mem_singleton] at hb
    subst hb
    subst e
    exact h ha
theorem len_put (t : Tab) (k : List Nat) (v : Int) : (putT t k v).length ≤ t.length + 1 := by
  unfold putT
  split
  · simp
  · simp
theorem mem_put {t : Tab} {k : List Nat} {v : Int} {p : List Nat × Int} (h : p ∈ putT t k v) : p = (k, v) ∨ p ∈ t := by
  unfold putT at h
  split at h
  · obtain ⟨q, hq, rfl⟩ := List.mem_map.mp h
    by_cases e : q.1 = k
    · left; simp [e]
    · right; simpa [e] using hq
  · rcases List.mem_append.mp h with h | h
    · exact .inr h
    · exact .inl (by simpa using h)
theorem getT_put (t : Tab) (k j : List Nat) (v : Int) : getT (putT t k v) j = if j = k then some v else getT t j := by
  have h := valV_put (tabV t) (Sum.inr (S k) : Key) (Sum.inr (S j)) (.int v)
  rw [put_tab, val_tab, val_tab] at h
  by_cases e : j = k
  · rw [if_pos (key_eq.mpr e)] at h
    rw [if_pos e]
    cases g : getT (putT t k v) j with
    | none => rw [g] at h; cases h
    | some z => rw [g] at h; injection h with h; injection h with h; rw [h]
  · rw [if_neg (fun z => e (key_eq.mp z))] at h
    rw [if_neg e]
    cases g : getT (putT t k v) j with
    | none => rw [g] at h; cases g2 : getT t j with
      | none => rfl
      | some z => rw [g2] at h; cases h
    | some z => rw [g] at h; cases g2 : getT t j with
      | none => rw [g2] at h; cases h
      | some z2 => rw [g2] at h; injection h with h; injection h with h; rw [h]
theorem keys_drop (t : Tab) (k : List Nat) : keysT (dropT t k) = (keysT t).filter fun j => decide (j ≠ k) := by
  unfold keysT dropT
  rw [List.filter_map]
  rfl
theorem nd_drop {t : Tab} (nd : (keysT t).Nodup) (k : List Nat) : (keysT (dropT t k)).Nodup := by
  rw [keys_drop]
  exact nd.filter _
theorem len_drop (t : Tab) (k : List Nat) : (dropT t k).length ≤ t.length := List.length_filter_le _ _
theorem mem_drop {t : Tab} {k : List Nat} {p : List Nat × Int} (h : p ∈ dropT t k) : p ∈ t := (List.mem_filter.mp h).1
/-! ### order -/
theorem lt_irr (a : List Nat) : ¬ a < a := List.lt_irrefl a
def le2 (a b : List Nat) : Bool := decide (a ≤ b)
theorem le2_iff {a b : List Nat} : le2 a b = true ↔ ¬ b < a := by
  unfold le2
  rw [decide_eq_true_iff]
  exact (List.not_lt).symm
def sortT (l : List (List Nat)) : List (List Nat) := l.mergeSort le2
theorem sortT_perm (l : List (List Nat)) : (sortT l).Perm l := List.mergeSort_perm _ _
theorem sortT_pw (l : List (List Nat)) : (sortT l).Pairwise (fun a b => ¬ b < a) := by
  have := List.pairwise_mergeSort (le := le2) (fun a b c h1 h2 => by
    unfold le2 at *
    simp only [decide_eq_true_eq] at *
    exact List.le_trans h1 h2) (fun a b => by
    unfold le2
    simp only [Bool.or_eq_true, decide_eq_true_eq]
    exact List.le_total a b) l
  exact this.imp fun h => le2_iff.mp h
theorem pw_of_rising : ∀ (l : List (List Nat)) (p : List Nat), risingS (S p) (l.map S) = true → (∀ x ∈ l, ¬ x < p) ∧ l.Pairwise (fun a b => ¬ b < a)
  | [], _, _ => ⟨(fun _ h => nomatch h), List.Pairwise.nil⟩
  | x :: r, p, h => by
    rw [List.map_cons] at h
    unfold risingS at h
    obtain ⟨h1, h2⟩ := Bool.and_eq_true_iff.mp h
    obtain ⟨h3, h4⟩ := pw_of_rising r x h2
    rw [S_toList, S_toList, ltCps_eq] at h1
    have h5 : ¬ x < p := by
      have h1 : decide (x < p) = false := by simpa using h1
      exact of_decide_eq_false h1
    refine ⟨fun y hy => ?_, .cons h3 h4⟩
    rcases List.mem_cons.mp hy with rfl | hy
    · exact h5
    · have h6 := h3 y hy
      rw [List.not_lt] at *
      exact List.le_trans h5 h6
theorem pw_of_sorted {l : List (List Nat)} (h : sortedS (l.map S) = true) : l.Pairwise (fun a b => ¬ b < a) := by
  cases l with
  | nil => exact .nil
  | cons x r =>
    obtain ⟨h3, h4⟩ := pw_of_rising r x h
    exact .cons h3 h4
theorem perm_S {ys : List Str} {xs : List (List Nat)} (h : ys.Perm (xs.map S)) : ∃ l : List (List Nat), l.Perm xs ∧ ys = l.map S := by
  refine ⟨ys.map fun z => z.cps.toList, ?_, ?_⟩
  · have h2 := h.map fun z : Str => z.cps.toList
    rw [List.map_map] at h2
    have e : xs.map ((fun z : Str => z.cps.toList) ∘ S) = xs := by
      conv => rhs; rw [← List.map_id xs]
      exact List.map_congr_left fun c _ => S_toList c
    rw [e] at h2
    exact h2
  · rw [List.map_map]
    conv => lhs; rw [← List.map_id ys]
    exact List.map_congr_left fun z _ => (S_cps z).symm
/-- what sorted gives -/
theorem sorted_is {ys : List Str} {xs : List (List Nat)} (h : ys.Perm (xs.map S)) (h2 : sortedS ys = true) : ys = (sortT xs).map S := by
  obtain ⟨l, hl, rfl⟩ := perm_S h
  have : l = sortT xs := List.Perm.eq_of_pairwise (le := fun a b => ¬ b < a) (fun a b _ _ h1 h2 => by
    rw [List.not_lt] at h1 h2
    exact List.le_antisymm h1 h2) (pw_of_sorted h2) (sortT_pw xs) (hl.trans (sortT_perm xs).symm)
  rw [this]
theorem sortT_of_perm {xs ys : List (List Nat)} (h : xs.Perm ys) : sortT xs = sortT ys :=
  List.Perm.eq_of_pairwise (le := fun a b => ¬ b < a) (fun a b _ _ h1 h2 => by
    rw [List.not_lt] at h1 h2
    exact List.le_antisymm h1 h2) (sortT_pw xs) (sortT_pw ys) ((sortT_perm xs).trans (h.trans (sortT_perm ys).symm))
/-- in a stretch, behind a text -/
def btw (lo : List Nat) (hi af : Option (List Nat)) (k : List Nat) : Bool := !decide (k < lo) && (hi.all fun h => decide (k < h)) && (af.all fun a => decide (a < k))
def spotsT (t : Tab) (lo : List Nat) (hi af : Option (List Nat)) : List (List Nat) := (sortT (keysT t)).filter (btw lo hi af)
theorem spots_mem {t : Tab} {lo : List Nat} {hi af : Option (List Nat)} {k : List Nat} (h : k ∈ spotsT t lo hi af) : k ∈ keysT t := (sortT_perm _).mem_iff.mp ((List.mem_filter.mp h).1)
theorem spots_len (t : Tab) (lo : List Nat) (hi af : Option (List Nat)) : (spotsT t lo hi af).length ≤ t.length := by
  refine Nat.le_trans (List.length_filter_le _ _) ?_
  rw [(sortT_perm _).length_eq]
  simp [keysT]
theorem spots_nd {t : Tab} (nd : (keysT t).Nodup) (lo : List Nat) (hi af : Option (List Nat)) : (spotsT t lo hi af).Nodup := ((sortT_perm _).nodup_iff.mpr nd).filter _
def pairsT (t : Tab) (ks : List (List Nat)) : Tab := ks.map fun k => (k, (getT t k).getD 0)
theorem spots_all (t : Tab) : spotsT t [] none none = sortT (keysT t) := by
  unfold spotsT
  rw [List.filter_eq_self]
  intro k _
  simp [btw, List.not_lt_nil]
def optV : Option (List Nat) → V | none => .non | some l => .str (S l)
theorem pairsT_len (t : Tab) (ks : List (List Nat)) : (pairsT t ks).length = ks.length := by simp [pairsT]
end U
namespace K47
open PySem PySem.Spec PyProof.Rows L2 U
def topS (i : Nat) : Stmt := PySem.Challenge.pw_undername_k47_stores_refused.main.body.getD i (.Pass ⟨0, 0, 0, 0⟩)
abbrev s_are_letters : Stmt := topS 11
theorem sc_are_letters : FnScope ["value", "letter", "at"] ["value"] (defScope s_are_letters) := ⟨rfl, rfl, rfl, by decide +kernel, rfl, by decide +kernel, by decide +kernel⟩
abbrev s_check_letters : Stmt := topS 12
theorem sc_check_letters : FnScope ["letters"] ["letters"] (defScope s_check_letters) := ⟨rfl, rfl, rfl, by decide +kernel, rfl, by decide +kernel, by decide +kernel⟩
abbrev s_is_text : Stmt := topS 13
theorem sc_is_text : FnScope ["letters", "value", "letter"] ["letters", "value"] (defScope s_is_text) := ⟨rfl, rfl, rfl, by decide +kernel, rfl, by decide +kernel, by decide +kernel⟩
abbrev s_need_text : Stmt := topS 14
theorem sc_need_text : FnScope ["letters", "value"] ["letters", "value"] (defScope s_need_text) := ⟨rfl, rfl, rfl, by decide +kernel, rfl, by decide +kernel, by decide +kernel⟩
abbrev s_is_integer : Stmt := topS 15
theorem sc_is_integer : FnScope ["value"] ["value"] (defScope s_is_integer) := ⟨rfl, rfl, rfl, by decide +kernel, rfl, by decide +kernel, by decide +kernel⟩
abbrev s_is_value : Stmt := topS 17
theorem sc_is_value : FnScope ["value"] ["value"] (defScope s_is_value) := ⟨rfl, rfl, rfl, by decide +kernel, rfl, by decide +kernel, by decide +kernel⟩
abbrev s_need_value : Stmt := topS 18
theorem sc_need_value : FnScope ["value"] ["value"] (defScope s_need_value) := ⟨rfl, rfl, rfl, by decide +kernel, rfl, by decide +kernel, by decide +kernel⟩
abbrev s_is_between : Stmt := topS 19
theorem sc_is_between : FnScope ["text", "low", "high", "after"] ["text", "low", "high", "after"] (defScope s_is_between) := ⟨rfl, rfl, rfl, by decide +kernel, rfl, by decide +kernel, by decide +kernel⟩
abbrev s_l_deal : Stmt := topS 22
theorem sc_l_deal : FnScope ["_law_script", "_law_base", "_law_cells", "_law_mixed", "_law_cell"] ["_law_script", "_law_base"] (defScope s_l_deal) := ⟨rfl, rfl, rfl, by decide +kernel, rfl, by decide +kernel, by decide +kernel⟩
abbrev s_l_draw : Stmt := topS 23
theorem sc_l_draw : FnScope ["_law_deal_here", "_law_many", "_law_left"] ["_law_deal_here", "_law_many"] (defScope s_l_draw) := ⟨rfl, rfl, rfl, by decide +kernel, rfl, by decide +kernel, by decide +kernel⟩
abbrev s_l_pick : Stmt := topS 24
theorem sc_l_pick : FnScope ["_law_deal_here", "_law_some"] ["_law_deal_here", "_law_some"] (defScope s_l_pick) := ⟨rfl, rfl, rfl, by decide +kernel, rfl, by decide +kernel, by decide +kernel⟩
abbrev s_l_letters : Stmt := topS 25
theorem sc_l_letters : FnScope ["_law_deal_here", "_law_most", "_law_left", "_law_found", "_law_k", "_law_sign"] ["_law_deal_here", "_law_most"] (defScope s_l_letters) := ⟨rfl, rfl, rfl, by decide +kernel, rfl, by decide +kernel, by decide +kernel⟩
abbrev s_l_text : Stmt := topS 26
theorem sc_l_text : FnScope ["_law_deal_here", "_law_letters_here", "_law_most", "_law_size", "_law_form", "_law_many", "_law_word", "_law_k"] ["_law_deal_here", "_law_letters_here", "_law_most"] (defScope s_l_text) := ⟨rfl, rfl, rfl, by decide +kernel, rfl, by decide +kernel, by decide +kernel⟩
abbrev s_l_value : Stmt := topS 27
theorem sc_l_value : FnScope ["_law_deal_here", "_law_form"] ["_law_deal_here"] (defScope s_l_value) := ⟨rfl, rfl, rfl, by decide +kernel, rfl, by decide +kernel, by decide +kernel⟩
abbrev s_l_refused : Stmt := topS 28
theorem sc_l_refused : FnScope ["_law_work", "_law_found", "e"] ["_law_work"] (defScope s_l_refused) := ⟨rfl, rfl, rfl, by decide +kernel, rfl, by decide +kernel, by decide +kernel⟩
abbrev s_l_put : Stmt := topS 29
theorem sc_l_put : FnScope ["_law_store", "_law_key", "_law_value_here"] ["_law_store", "_law_key", "_law_value_here"] (defScope s_l_put) := ⟨rfl, rfl, rfl, by decide +kernel, rfl, by decide +kernel, by decide +kernel⟩
abbrev s_l_got : Stmt := topS 30
theorem sc_l_got : FnScope ["_law_store", "_law_key"] ["_law_store", "_law_key"] (defScope s_l_got) := ⟨rfl, rfl, rfl, by decide +kernel, rfl, by decide +kernel, by decide +kernel⟩
abbrev s_l_odd_key : Stmt := topS 31
theorem sc_l_odd_key : FnScope ["_law_deal_here", "_law_letters_here", "_law_other", "_law_some", "_law_sign"] ["_law_deal_here", "_law_letters_here"] (defScope s_l_odd_key) := ⟨rfl, rfl, rfl, by decide +kernel, rfl, by decide +kernel, by decide +kernel⟩
abbrev s_l_odd_value : Stmt := topS 32
theorem sc_l_odd_value : FnScope ["_law_deal_here"] ["_law_deal_here"] (defScope s_l_odd_value) := ⟨rfl, rfl, rfl, by decide +kernel, rfl, by decide +kernel, by decide +kernel⟩
abbrev s_l_pairs_right : Stmt := topS 33
theorem sc_l_pairs_right : FnScope ["_law_deal_here", "_law_letters_here", "_law_pairs", "_law_at", "_law_form", "_law_key", "_law_value_here", "_law_some", "_law_due", "_law_told", "_law_more", "_law_odd"] ["_law_deal_here", "_law_letters_here", "_law_pairs"] (defScope s_l_pairs_right) := ⟨rfl, rfl, rfl, by decide +kernel, rfl, by decide +kernel, by decide +kernel⟩
abbrev s_law : Stmt := topS 34
theorem sc_law : FnScope ["_law_script", "_law_deal_here", "_law_turn", "_law_letters_here", "_law_pairs", "_law_store", "_law_kept", "_law_key", "_law_value_here", "_law_odd", "_law_bad", "_law_found", "_law_lost", "_law_text_here", "_law_again"] ["_law_script"] (defScope s_law) := ⟨rfl, rfl, rfl, by decide +kernel, rfl, by decide +kernel, by decide +kernel⟩
structure Top (K : PySem.W.Frag) (mg : Str → Option Value) : Type where
  f_are_letters : Addr
  d_are_letters : FuncData
  F_are_letters : Fun K "are_letters" "are_letters" s_are_letters f_are_letters d_are_letters
  g_are_letters : mg "are_letters" = some (.ref f_are_letters)
  b_are_letters : Binds K d_are_letters ["value"] []
  f_check_letters : Addr
  d_check_letters : FuncData
  F_check_letters : Fun K "check_letters" "check_letters" s_check_letters f_check_letters d_check_letters
  g_check_letters : mg "check_letters" = some (.ref f_check_letters)
  b_check_letters : Binds K d_check_letters ["letters"] []
  f_is_text : Addr
  d_is_text : FuncData
  F_is_text : Fun K "is_text" "is_text" s_is_text f_is_text d_is_text
  g_is_text : mg "is_text" = some (.ref f_is_text)
  b_is_text : Binds K d_is_text ["letters", "value"] []
  f_need_text : Addr
  d_need_text : FuncData
  F_need_text : Fun K "need_text" "need_text" s_need_text f_need_text d_need_text
  g_need_text : mg "need_text" = some (.ref f_need_text)
  b_need_text : Binds K d_need_text ["letters", "value"] []
  f_is_integer : Addr
  d_is_integer : FuncData
  F_is_integer : Fun K "is_integer" "is_integer" s_is_integer f_is_integer d_is_integer
  g_is_integer : mg "is_integer" = some (.ref f_is_integer)
  b_is_integer : Binds K d_is_integer ["value"] []
  f_is_value : Addr
  d_is_value : FuncData
  F_is_value : Fun K "is_value" "is_value" s_is_value f_is_value d_is_value
  g_is_value : mg "is_value" = some (.ref f_is_value)
  b_is_value : Binds K d_is_value ["value"] []
  f_need_value : Addr
  d_need_value : FuncData
  F_need_value : Fun K "need_value" "need_value" s_need_value f_need_value d_need_value
  g_need_value : mg "need_value" = some (.ref f_need_value)
  b_need_value : Binds K d_need_value ["value"] []
  f_is_between : Addr
  d_is_between : FuncData
  F_is_between : Fun K "is_between" "is_between" s_is_between f_is_between d_is_between
  g_is_between : mg "is_between" = some (.ref f_is_between)
  b_is_between : Binds K d_is_between ["text", "low", "high", "after"] []
  f_l_deal : Addr
  d_l_deal : FuncData
  F_l_deal : Fun K "_law_deal" "_law_deal" s_l_deal f_l_deal d_l_deal
  g_l_deal : mg "_law_deal" = some (.ref f_l_deal)
  b_l_deal : Binds K d_l_deal ["_law_script", "_law_base"] []
  f_l_draw : Addr
  d_l_draw : FuncData
  F_l_draw : Fun K "_law_draw" "_law_draw" s_l_draw f_l_draw d_l_draw
  g_l_draw : mg "_law_draw" = some (.ref f_l_draw)
  b_l_draw : Binds K d_l_draw ["_law_deal_here", "_law_many"] []
  f_l_pick : Addr
  d_l_pick : FuncData
  F_l_pick : Fun K "_law_pick" "_law_pick" s_l_pick f_l_pick d_l_pick
  g_l_pick : mg "_law_pick" = some (.ref f_l_pick)
  b_l_pick : Binds K d_l_pick ["_law_deal_here", "_law_some"] []
  f_l_letters : Addr
  d_l_letters : FuncData
  F_l_letters : Fun K "_law_letters" "_law_letters" s_l_letters f_l_letters d_l_letters
  g_l_letters : mg "_law_letters" = some (.ref f_l_letters)
  b_l_letters : Binds K d_l_letters ["_law_deal_here", "_law_most"] []
  f_l_text : Addr
  d_l_text : FuncData
  F_l_text : Fun K "_law_text" "_law_text" s_l_text f_l_text d_l_text
  g_l_text : mg "_law_text" = some (.ref f_l_text)
  b_l_text : Binds K d_l_text ["_law_deal_here", "_law_letters_here", "_law_most"] []
  f_l_value : Addr
  d_l_value : FuncData
  F_l_value : Fun K "_law_value" "_law_value" s_l_value f_l_value d_l_value
  g_l_value : mg "_law_value" = some (.ref f_l_value)
  b_l_value : Binds K d_l_value ["_law_deal_here"] []
  f_l_refused : Addr
  d_l_refused : FuncData
  F_l_refused : Fun K "_law_refused" "_law_refused" s_l_refused f_l_refused d_l_refused
  g_l_refused : mg "_law_refused" = some (.ref f_l_refused)
  b_l_refused : Binds K d_l_refused ["_law_work"] []
  f_l_put : Addr
  d_l_put : FuncData
  F_l_put : Fun K "_law_put" "_law_put" s_l_put f_l_put d_l_put
  g_l_put : mg "_law_put" = some (.ref f_l_put)
  b_l_put : Binds K d_l_put ["_law_store", "_law_key", "_law_value_here"] []
  f_l_got : Addr
  d_l_got : FuncData
  F_l_got : Fun K "_law_got" "_law_got" s_l_got f_l_got d_l_got
  g_l_got : mg "_law_got" = some (.ref f_l_got)
  b_l_got : Binds K d_l_got ["_law_store", "_law_key"] []
  f_l_odd_key : Addr
  d_l_odd_key : FuncData
  F_l_odd_key : Fun K "_law_odd_key" "_law_odd_key" s_l_odd_key f_l_odd_key d_l_odd_key
  g_l_odd_key : mg "_law_odd_key" = some (.ref f_l_odd_key)
  b_l_odd_key : Binds K d_l_odd_key ["_law_deal_here", "_law_letters_here"] []
  f_l_odd_value : Addr
  d_l_odd_value : FuncData
  F_l_odd_value : Fun K "_law_odd_value" "_law_odd_value" s_l_odd_value f_l_odd_value d_l_odd_value
  g_l_odd_value : mg "_law_odd_value" = some (.ref f_l_odd_value)
  b_l_odd_value : Binds K d_l_odd_value ["_law_deal_here"] []
  f_l_pairs_right : Addr
  d_l_pairs_right : FuncData
  F_l_pairs_right : Fun K "_law_pairs_right" "_law_pairs_right" s_l_pairs_right f_l_pairs_right d_l_pairs_right
  g_l_pairs_right : mg "_law_pairs_right" = some (.ref f_l_pairs_right)
  b_l_pairs_right : Binds K d_l_pairs_right ["_law_deal_here", "_law_letters_here", "_law_pairs"] []
  f_law : Addr
  d_law : FuncData
  F_law : Fun K "law" "law" s_law f_law d_law
  g_law : mg "law" = some (.ref f_law)
  b_law : Binds K d_law ["_law_script"] []
  n_KeyError : mg "KeyError" = none
  n_abs : mg "abs" = none
  n_all : mg "all" = none
  n_bool : mg "bool" = none
  n_int : mg "int" = none
  n_isinstance : mg "isinstance" = none
  n_len : mg "len" = none
  n_list : mg "list" = none
  n_range : mg "range" = none
  n_repr : mg "repr" = none
  n_sorted : mg "sorted" = none
  n_str : mg "str" = none
  n_tuple : mg "tuple" = none
abbrev s_NoText : Stmt := inClass (topS 4) 0
theorem ss_NoText : SupS PySem.Challenge.pw_undername_k47_stores_refused s_NoText "value" "value" := ⟨⟨_, _, _, _, _, _, _, _, _, _, rfl, ⟨⟨_, fun env => rfl⟩, fun env => rfl⟩⟩, ⟨_, rfl, rfl⟩, rfl, rfl, rfl, rfl, rfl, rfl, rfl, by decide +kernel, by rfl, by decide, by decide, fun _ _ _ _ _ _ _ _ _ _ => rfl⟩
abbrev s_NoValue : Stmt := inClass (topS 5) 0
theorem ss_NoValue : SupS PySem.Challenge.pw_undername_k47_stores_refused s_NoValue "value" "value" := ⟨⟨_, _, _, _, _, _, _, _, _, _, rfl, ⟨⟨_, fun env => rfl⟩, fun env => rfl⟩⟩, ⟨_, rfl, rfl⟩, rfl, rfl, rfl, rfl, rfl, rfl, rfl, by decide +kernel, by rfl, by decide, by decide, fun _ _ _ _ _ _ _ _ _ _ => rfl⟩
abbrev s_NoKey : Stmt := inClass (topS 6) 0
theorem ss_NoKey : SupS PySem.Challenge.pw_undername_k47_stores_refused s_NoKey "key" "key" := ⟨⟨_, _, _, _, _, _, _, _, _, _, rfl, ⟨⟨_, fun env => rfl⟩, fun env => rfl⟩⟩, ⟨_, rfl, rfl⟩, rfl, rfl, rfl, rfl, rfl, rfl, rfl, by decide +kernel, by rfl, by decide, by decide, fun _ _ _ _ _ _ _ _ _ _ => rfl⟩
abbrev s_Sinit : Stmt := inClass (topS 20) 0
theorem sc_Sinit : FnScope ["self", "letters", "pairs", "key", "value"] ["self", "letters", "pairs"] (defScope s_Sinit) := ⟨rfl, rfl, rfl, by decide +kernel, rfl, by decide +kernel, by decide +kernel⟩
abbrev s_Sput : Stmt := inClass (topS 20) 1
theorem sc_Sput : FnScope ["self", "key", "value"] ["self", "key", "value"] (defScope s_Sput) := ⟨rfl, rfl, rfl, by decide +kernel, rfl, by decide +kernel, by decide +kernel⟩
abbrev s_Sset : Stmt := inClass (topS 20) 2
theorem sc_Sset : FnScope ["self", "at", "worth"] ["self", "at", "worth"] (defScope s_Sset) := ⟨rfl, rfl, rfl, by decide +kernel, rfl, by decide +kernel, by decide +kernel⟩
abbrev s_Sget : Stmt := inClass (topS 20) 3
theorem sc_Sget : FnScope ["self", "at"] ["self", "at"] (defScope s_Sget) := ⟨rfl, rfl, rfl, by decide +kernel, rfl, by decide +kernel, by decide +kernel⟩
abbrev s_Sin : Stmt := inClass (topS 20) 4
theorem sc_Sin : FnScope ["self", "x"] ["self", "x"] (defScope s_Sin) := ⟨rfl, rfl, rfl, by decide +kernel, rfl, by decide +kernel, by decide +kernel⟩
abbrev s_Sspots : Stmt := inClass (topS 20) 8
theorem sc_Sspots : FnScope ["self", "low", "high", "after", "key", "one"] ["self", "low", "high", "after"] (defScope s_Sspots) := ⟨rfl, rfl, rfl, by decide +kernel, rfl, by decide +kernel, by decide +kernel⟩
abbrev s_Spairs : Stmt := inClass (topS 20) 9
theorem sc_Spairs : FnScope ["self", "low", "high", "after", "key"] ["self", "low", "high", "after"] (defScope s_Spairs) := ⟨rfl, rfl, rfl, by decide +kernel, rfl, by decide +kernel, by decide +kernel⟩
abbrev s_Sfill : Stmt := inClass (topS 20) 12
theorem sc_Sfill : FnScope ["self", "value", "low", "high", "after", "some", "key"] ["self", "value", "low", "high", "after"] (defScope s_Sfill) := ⟨rfl, rfl, rfl, by decide +kernel, rfl, by decide +kernel, by decide +kernel⟩
structure Exs (P : Program) (K : PySem.W.Frag) (mg : Str → Option Value) : Type where
  C_UnderError : Addr
  g_UnderError : mg "UnderError" = some (.ref C_UnderError)
  C_InvalidLetters : Addr
  g_InvalidLetters : mg "InvalidLetters" = some (.ref C_InvalidLetters)
  C_NoText : Addr
  g_NoText : mg "NoText" = some (.ref C_NoText)
  C_NoValue : Addr
  g_NoValue : mg "NoValue" = some (.ref C_NoValue)
  C_NoKey : Addr
  g_NoKey : mg "NoKey" = some (.ref C_NoKey)
  i_NoText : Addr
  tc_NoText : SupC K "ValueError" "ValueError.__new__" "ValueError.__init__" veTl C_NoText i_NoText "value"
  tf_NoText : SupF P K C_NoText i_NoText "NoText.__init__" "value" "value" (defArgs s_NoText) (defBody s_NoText) (defScope s_NoText)
  i_NoValue : Addr
  tc_NoValue : SupC K "ValueError" "ValueError.__new__" "ValueError.__init__" veTl C_NoValue i_NoValue "value"
  tf_NoValue : SupF P K C_NoValue i_NoValue "NoValue.__init__" "value" "value" (defArgs s_NoValue) (defBody s_NoValue) (defScope s_NoValue)
  i_NoKey : Addr
  tc_NoKey : SupC K "KeyError" "LookupError.__new__" "KeyError.__init__" keTail C_NoKey i_NoKey "key"
  tf_NoKey : SupF P K C_NoKey i_NoKey "NoKey.__init__" "key" "key" (defArgs s_NoKey) (defBody s_NoKey) (defScope s_NoKey)
  xi_InvalidLetters : PySem.W.excIn K C_InvalidLetters veTl "ValueError.__new__" = true
  kc_InvalidLetters : PySem.W.keepIn K (.ref C_InvalidLetters) = true
  ec_InvalidLetters : ExcC K C_InvalidLetters
  bB_InvalidLetters : PySem.W.subIn K (.ref C_InvalidLetters) (.type "BaseException") = some true
  tB_InvalidLetters : PySem.W.typeIn K (.ref C_InvalidLetters) = some (.type "type")
  ec_NoText : ExcC K C_NoText
  bB_NoText : PySem.W.subIn K (.ref C_NoText) (.type "BaseException") = some true
  tB_NoText : PySem.W.typeIn K (.ref C_NoText) = some (.type "type")
  ec_NoValue : ExcC K C_NoValue
  bB_NoValue : PySem.W.subIn K (.ref C_NoValue) (.type "BaseException") = some true
  tB_NoValue : PySem.W.typeIn K (.ref C_NoValue) = some (.type "type")
  ec_NoKey : ExcC K C_NoKey
  bB_NoKey : PySem.W.subIn K (.ref C_NoKey) (.type "BaseException") = some true
  tB_NoKey : PySem.W.typeIn K (.ref C_NoKey) = some (.type "type")
  tS : Tok
  g_SIGNS : mg "SIGNS" = some (.str "-./0123456789_abcdefghijklmnopqrstuvwxyz" tS)
  tF : Tok
  g_FEWEST : mg "FEWEST" = some (.int 2 tF)
  tM : Tok
  g_MOST : mg "MOST" = some (.int 5 tM)
  sup : mg "super" = none
  eK : PySem.W.exmOne K (.ref C_NoKey) (.ref C_NoKey) = some true
  kK : PySem.W.kitOne K (.ref C_NoKey) (.type "KeyError") = some true
  eU_InvalidLetters : PySem.W.exmOne K (.ref C_InvalidLetters) (.ref C_UnderError) = some true
  eU_NoText : PySem.W.exmOne K (.ref C_NoText) (.ref C_UnderError) = some true
  eU_NoValue : PySem.W.exmOne K (.ref C_NoValue) (.ref C_UnderError) = some true
  eU_NoKey : PySem.W.exmOne K (.ref C_NoKey) (.ref C_UnderError) = some false
  kk_InvalidLetters_InvalidLetters : PySem.W.kitOne K (.ref C_InvalidLetters) (.ref C_InvalidLetters) = some true
  kk_InvalidLetters_NoText : PySem.W.kitOne K (.ref C_InvalidLetters) (.ref C_NoText) = some false
  kk_InvalidLetters_NoValue : PySem.W.kitOne K (.ref C_InvalidLetters) (.ref C_NoValue) = some false
  kk_NoText_InvalidLetters : PySem.W.kitOne K (.ref C_NoText) (.ref C_InvalidLetters) = some false
  kk_NoText_NoText : PySem.W.kitOne K (.ref C_NoText) (.ref C_NoText) = some true
  kk_NoText_NoValue : PySem.W.kitOne K (.ref C_NoText) (.ref C_NoValue) = some false
  kk_NoValue_InvalidLetters : PySem.W.kitOne K (.ref C_NoValue) (.ref C_InvalidLetters) = some false
  kk_NoValue_NoText : PySem.W.kitOne K (.ref C_NoValue) (.ref C_NoText) = some false
  kk_NoValue_NoValue : PySem.W.kitOne K (.ref C_NoValue) (.ref C_NoValue) = some true
structure Sto (K : PySem.W.Frag) (mg : Str → Option Value) : Type where
  C : Addr
  g : mg "Store" = some (.ref C)
  cl : Cls K C
  nL : NoAttr K C "letters"
  nT : NoAttr K C "table"
  noseq : PySem.W.noSeq K C = true
  ne : NeO K C
  cA : PySem.W.findIn K (.ref C) "__class__" = some (some (.builtin "object.__class__"))
  cB : PySem.W.specialIn K (.builtin "object.__class__") "__get__" = some (some (.builtin "getset_descriptor.__get__"))
  cC : PySem.W.takesIn K (.builtin "object.__class__") = some true
  cD : PySem.W.mroIn K C (.type "object") = some true
  kS : PySem.W.kitOne K (.ref C) (.ref C) = some true
  kL : PySem.W.kitOne K (.type "list") (.ref C) = some false
  kD : PySem.W.kitOne K (.type "dict") (.ref C) = some false
  fL : PySem.W.notFirst K C (.type "list") = true
  fD : PySem.W.notFirst K C (.type "dict") = true
  e0 : Addr
  oe : Obj
  le : K.lookup e0 = some oe
  ce : oe.cls = .type "tuple"
  ne0 : Nat
  de : oe.data = .seq #[] ne0
  f_init : Addr
  d_init : FuncData
  F_init : FunD K "__init__" "Store.__init__" (defArgs s_Sinit) (defBody s_Sinit) (defScope s_Sinit) [.ref e0] [] f_init d_init
  f_put : Addr
  d_put : FuncData
  F_put : Fun K "put" "Store.put" s_Sput f_put d_put
  m_put : Meth K C "put" f_put
  b_put : Binds K d_put ["self", "key", "value"] []
  f_set : Addr
  d_set : FuncData
  F_set : Fun K "__setitem__" "Store.__setitem__" s_Sset f_set d_set
  dn_set : Dn K C "__setitem__" f_set
  b_set : Binds K d_set ["self", "at", "worth"] []
  f_get : Addr
  d_get : FuncData
  F_get : Fun K "__getitem__" "Store.__getitem__" s_Sget f_get d_get
  dn_get : Dn K C "__getitem__" f_get
  b_get : Binds K d_get ["self", "at"] []
  f_in : Addr
  d_in : FuncData
  F_in : Fun K "__contains__" "Store.__contains__" s_Sin f_in d_in
  dn_in : Dn K C "__contains__" f_in
  b_in : Binds K d_in ["self", "x"] []
  f_spots : Addr
  d_spots : FuncData
  F_spots : Fun K "spots" "Store.spots" s_Sspots f_spots d_spots
  m_spots : Meth K C "spots" f_spots
  b_spots : Binds K d_spots ["self", "low", "high", "after"] []
  f_pairs : Addr
  d_pairs : FuncData
  F_pairs : FunD K "pairs" "Store.pairs" (defArgs s_Spairs) (defBody s_Spairs) (defScope s_Spairs) [.str (S []), .non] [("after", .non)] f_pairs d_pairs
  m_pairs : Meth K C "pairs" f_pairs
  f_fill : Addr
  d_fill : FuncData
  F_fill : FunD K "fill" "Store.fill" (defArgs s_Sfill) (defBody s_Sfill) (defScope s_Sfill) [] [("after", .non)] f_fill d_fill
  m_fill : Meth K C "fill" f_fill
  mkS : Mk K C f_init
  bI3 : Binds K d_init ["self", "letters", "pairs"] []
  bI2 : ∃ ds, Vals [.ref e0] ds ∧ Binds K d_init ["self", "letters", "pairs"] ds
  fi_get : PySem.W.fnIn K f_get = true
  bP0 : ∃ ds, Vals [.str (S []), .non, .non] ds ∧ Binds K d_pairs ["self", "low", "high", "after"] ds
  bP1 : ∃ ds, Vals [.non, .non] ds ∧ Binds K d_pairs ["self", "low", "high", "after"] ds
  k_pairs : KBn K d_pairs ["self", "low", "high", "after"] 3 ["after"] (fun us ws => us ++ ws) (fun vs zs => vs ++ zs)
  bF0 : ∃ ds, Vals [.non] ds ∧ Binds K d_fill ["self", "value", "low", "high", "after"] ds
  k_fill : KBn K d_fill ["self", "value", "low", "high", "after"] 4 ["after"] (fun us ws => us ++ ws) (fun vs zs => vs ++ zs)
section
variable {P : Program} {w : World} {K : PySem.W.Frag} {mg : Str → Option Value} {base : Heap}
theorem ok_l_draw (T : Top K mg) : FnOk P w K mg base CX0 1 T.f_l_draw T.d_l_draw ["_law_deal_here", "_law_many"] spDraw := by
  refine T.F_l_draw.ok sc_l_draw (fun vs H Q E h => ?_) (fun cdv A outer s H vs Q E hr h => ?_)
  · obtain ⟨a, c, many, rfl, _⟩ := h
    rfl
  · obtain ⟨a, c, many, rfl, ⟨ns, m, d0⟩, hm1, hm2, q⟩ := h
    refine ⟨_, (pss_cons (ps_while PassesOwn.never (PW.pt (pw_and (pt_cmpR (op_neD hr.units) (pe_ix ix_list (pv 0) pe_int (fun _ _ => rfl)) (pe_lst pa_nil) (nomark _)) (pw_and1 (pt_cmpR op_eq (pe_ix ix_list (pe_ix ix_list (pv 0) pe_int (fun _ _ => rfl)) (pe_un un_neg pe_int) (fun _ _ => rfl)) pe_int (nomark _))))) (pss_one (ps_expr (pe_bm0 PySem.F.plainAttrs_list PySem.F.slot_list_pop PySem.F.type_list_pop mt_pop (pe_ix ix_list (pv 0) pe_int (fun _ _ => rfl))))))
        (pss_cons (ps_if (pt_cmpR (op_neD hr.units) (pe_ix ix_list (pv 0) pe_int (fun _ _ => rfl)) (pe_lst pa_nil) (nomark _)) (pss_cons (ps_set (i := 2) sc_l_draw.nd rfl (Or.inl rfl) (pe_bm0 PySem.F.plainAttrs_list PySem.F.slot_list_pop PySem.F.type_list_pop mt_pop (pe_ix ix_list (pv 0) pe_int (fun _ _ => rfl))))
        (pss_cons (ps_expr (pe_bm PySem.F.plainAttrs_list PySem.F.slot_list_append PySem.F.type_list_append mt_append (pe_ix ix_list (pv 0) pe_int (fun _ _ => rfl)) (pa_cons (pe_op op_fdivW (pv 2) (pv 1)) pa_nil)))
        (pss_one (ps_ret (pe_op op_mod (pe_callTy call_int1 (by rfl) T.n_int (by decide +kernel) (pa_cons (pv 2) pa_nil)) (pv 1)))))) pss_nil)
        (pss_cons (ps_asg (pe_op op_mod (pe_callTy call_int1 (by rfl) T.n_int (by decide +kernel) (pa_cons (pe_op op_mul (pe_ix ix_list (pv 0) pe_int (fun _ _ => rfl)) pe_int) pa_nil)) pe_int) (pg_sub (pv 0) pe_int set_list))
        (pss_one (ps_ret (pe_op op_mod (pe_callTy call_int1 (by rfl) T.n_int (by decide +kernel) (pa_cons (pe_op op_fdivW (pe_ix ix_list (pv 0) pe_int (fun _ _ => rfl)) pe_int) pa_nil)) (pv 1))))))), ?_⟩
    refine ⟨fun k σ H' => ∃ ns m, σ = [some (.ref a), some (.int many), none] ∧ k = ns.length ∧ DealIs H' a c ns m ∧ Kp a c H H', ⟨_, ns, m, rfl, rfl, d0, Kp.refl _ _ _⟩, ?_⟩
    rintro k σ H1 ⟨ns, m, rfl, rfl, d, kp⟩
    refine dealNe d rfl fun p hp d1 => ?_
    have kp1 : Kp a c H (upd H1 p (.lst [])) := kp.new' hp
    by_cases hn : ns = []
    · subst hn
      refine iteF ?_
      refine iteF ?_
      refine dealNe d1 rfl fun p2 hp2 d2 => ?_
      have kp2 := kp1.new' (o := .lst []) hp2
      refine iteF ?_
      refine deal1 d2 rfl ?_
      refine ⟨m, 48271, rfl, rfl, .inr ⟨by decide, by decide⟩, .inl ⟨_, rfl, ?_⟩⟩
      refine ⟨_, _, rfl, rfl, (by show (0 : Int) < 2147483647; decide), ?_⟩
      have hb1 : 0 ≤ m * 48271 % 2147483647 := Int.emod_nonneg _ (by decide)
      have hb2 : m * 48271 % 2147483647 < 2147483647 := Int.emod_lt_of_pos _ (by decide)
      refine ⟨_, rfl, a, _, 1, 1, rfl, rfl, d2.hd, rfl, ?_⟩
      have d3 := d2.setM hb1 hb2
      refine deal1 d3 rfl ?_
      refine ⟨_, 8, rfl, rfl, lt200 (by decide) (by decide), .inl ⟨_, rfl, ?_⟩⟩
      refine ⟨_, rfl, _, _, rfl, rfl, (by omega), ?_⟩
      exact q _ _ (Int.emod_nonneg _ (by omega)) (Int.emod_lt_of_pos _ (by omega)) ⟨_, _, d3⟩ kp2.updA
    · rw [decide_eq_false hn]
      refine iteT ?_
      obtain ⟨l, z, rfl⟩ := rev_last hn
      refine deal0 d1 rfl ?_
      have el : atI ((l ++ [z]).map V.int) (-1) = some (.int z) := by
        rw [List.map_append]
        exact atI_last _ _
      have ep : ((l ++ [z]).map V.int)[((l ++ [z]).map V.int).length - 1]? = some (.int z) := by simp
      have ed : ((l ++ [z]).map V.int).dropLast = l.map V.int := by simp
      have hl : l.length + 1 ≤ 63 := by simpa using d.few
      have hz : 0 ≤ z := d.pos z (by simp)
      have hlp : ∀ n ∈ l, 0 ≤ n := fun n hn => d.pos n (by simp [hn])
      refine ⟨1, rfl, c, _, -1, .int z, rfl, rfl, SqL.of d1.cs, el, rfl, _, rfl, ite2 (fun e => ?_) (fun e => ?_)⟩
      · refine ⟨fun σ' H' => ∃ m, σ' = [some (.ref a), some (.int many), none] ∧ DealIs H' a c l m ∧ Kp a c H H', fun σ' H' ⟨m, e1, e2, e3⟩ => ⟨l.length, by simp, l, m, e1, rfl, e2, e3⟩, ?_⟩
        refine deal0 d1 rfl ?_
        refine ⟨.inl ⟨rfl, _, SqL.of d1.cs⟩, c, _, _, rfl, rfl, d1.cs, ep, ?_⟩
        rw [ed]
        exact ⟨m, rfl, d1.setC hlp (by omega), kp1.updC⟩
      · refine dealNe d1 rfl fun p2 hp2 d2 => ?_
        have kp2 := kp1.new' (o := .lst []) hp2
        rw [decide_eq_false hn]
        refine iteT ?_
        refine deal0 d2 rfl ?_
        refine ⟨.inl ⟨rfl, _, SqL.of d2.cs⟩, c, _, _, rfl, rfl, d2.cs, ep, ?_⟩
        rw [ed]
        have d3 := d2.setC hlp (by omega)
        refine deal0 d3 rfl ?_
        refine ⟨.inl ⟨rfl, _, SqL.of d3.cs⟩, _, rfl, _, rfl, _, _, rfl, rfl, lt200 hm1 hm2, c, _, _, rfl, rfl, d3.cs, ?_, ?_⟩
        · rw [List.length_map]
          exact small1000 (by omega)
        · have d4 := d3.setC (ns' := l ++ [z / many]) (fun n hn => by
            rcases List.mem_append.mp hn with h | h
            · exact hlp n h
            · rw [List.mem_singleton.mp h]
              exact Int.ediv_nonneg hz (by omega)) (by simpa using hl)
          rw [List.map_append] at d4
          refine ⟨_, rfl, .inl ⟨_, rfl, ?_⟩⟩
          refine ⟨_, rfl, _, _, rfl, rfl, (by omega), ?_⟩
          exact q _ _ (Int.emod_nonneg _ (by omega)) (Int.emod_lt_of_pos _ (by omega)) ⟨_, _, d4⟩ kp2.updC.updC
theorem ok_l_deal (T : Top K mg) : FnOk P w K mg base CX0 1 T.f_l_deal T.d_l_deal ["_law_script", "_law_base"] (spDeal K) := by
  refine T.F_l_deal.ok sc_l_deal (fun vs H Q E h => ?_) (fun cdv A outer s H vs Q E hr h => ?_)
  · obtain ⟨a, ns, b, rfl, _⟩ := h
    rfl
  · obtain ⟨a, ns, b, rfl, hS, hl, hb0, hb1, q⟩ := h
    refine ⟨_, (pss_cons (ps_setLc (i := 2) (own := [("_law_cell", 4)]) (g := gName 4) (tt := tYes) (by rfl) sc_l_deal.nd rfl rfl (sw_true rfl rfl rfl (by decide +kernel)) (pi_list (pe_slice sl_list (pv 0) (po_some (pv 1)) (po_some pe_int))) (blkOk_by (own := [("_law_cell", 4)]) (N := ["_law_script", "_law_base", "_law_cells", "_law_mixed", "_law_cell"]) (sc := defScope s_l_deal) (by decide +kernel)) (fun _ _ _ _ _ => pg_name (i := 4) sc_l_deal.nd rfl (Or.inl rfl)) (fun _ _ _ _ _ => pts_nil) (fun _ _ _ _ _ => (pe_callB call_abs (by rfl) T.n_abs (by decide +kernel) (pa_cons (pv 4) pa_nil))))
        (pss_cons (ps_set (i := 3) sc_l_deal.nd rfl (Or.inl rfl) (pe_op op_add pe_int (pe_op op_mul pe_int (pv 1))))
        (pss_cons (ps_for PassesOwn.never rfl (pi_list (pv 2)) (pg_name (i := 4) sc_l_deal.nd rfl (Or.inl rfl)) (pss_one (ps_set (i := 3) sc_l_deal.nd rfl (Or.inl rfl) (pe_op op_mod (pe_callTy call_int1 (by rfl) T.n_int (by decide +kernel) (pa_cons (pe_op op_add (pe_op op_mul (pv 3) pe_int) (pe_op op_mod (pe_callTy call_int1 (by rfl) T.n_int (by decide +kernel) (pa_cons (pv 4) pa_nil)) pe_int)) pa_nil)) pe_int))))
        (pss_one (ps_ret (pe_lst (pa_cons (pe_revL (pe_lc (own := [("_law_cell", 4)]) (g := gName 4)  (by rfl) sc_l_deal.nd (pi_list (pv 2)) (blkOk_by (own := [("_law_cell", 4)]) (N := ["_law_script", "_law_base", "_law_cells", "_law_mixed", "_law_cell"]) (sc := defScope s_l_deal) (by decide +kernel)) (fun _ _ _ _ _ => pg_name (i := 4) sc_l_deal.nd rfl (Or.inl rfl)) (fun _ _ _ _ _ => pts_one (pt_cmpR op_ge (pv 4) (pe_op op_pow pe_int pe_int) (nomark _))) (fun _ _ _ _ _ => (pv 4)))) (pa_cons (pv 3) pa_nil)))))))), ?_⟩
    -- the cells
    refine ⟨_, rfl, _, rfl, b, rfl, 63, rfl, a, _, rfl, hS, fun p hp => ?_⟩
    obtain ⟨ms, ec, _, hml⟩ := cut_map V.int ns (some b) (some 63)
    rw [ec]
    have s1 : Same H (upd H p (.lst (ms.map V.int))) := Same.new (Same.refl _) hp
    refine ⟨p, rfl, ⟨_, SqL.of upd_same⟩, fun D hD => ?_⟩
    refine lcM (src_list K p (ms.map V.int)) (fun v => match v with | .int n => .int (if n < 0 then -n else n) | v => v) (SqL.of upd_same) hD (fun _ => rfl) (by rw [List.length_map]; omega) ?_ ?_
    · intro x hx H' _ Q k
      obtain ⟨n, _, rfl⟩ := List.mem_map.mp hx
      exact ⟨_, rfl, _, rfl, k H' (Same.refl _)⟩
    · intro H2 s2 e2
      rw [List.map_map] at e2
      have s02 : Same H H2 := s1.trans s2
      generalize hcs : ms.map (fun n => if n < 0 then -n else n) = cs at *
      have e2 : H2 D = some (.lst (cs.map V.int)) := by
        rw [e2, ← hcs, List.map_map]
        rfl
      have hcp : ∀ n ∈ cs, 0 ≤ n := by
        intro n hn
        rw [← hcs] at hn
        obtain ⟨z, _, rfl⟩ := List.mem_map.mp hn
        split <;> omega
      have hcl : cs.length ≤ 63 := by
        rw [← hcs, List.length_map]
        omega
      -- mixed
      refine ⟨_, rfl, 11, b, rfl, rfl, .inl ⟨by decide, by decide⟩, _, _, rfl, rfl, ?_⟩
      refine ⟨_, rfl, D, rfl, ⟨_, SqL.of e2⟩, ?_⟩
      refine for_it (src_list K D (cs.map V.int)).w (fun i σ H' => ∃ m v, σ = [some (.ref a), some (.int b), some (.ref D), some (.int m), v] ∧ 0 ≤ m ∧ m < 2147483647 ∧ H' = H2) ⟨_, none, rfl, by omega, by omega, rfl⟩ (fun i σ H' _ ⟨_, _, _, _, _, e⟩ => by rw [e]; exact SqL.of e2) ?_ ?_
      · rintro i x σ H3 H4 hi ⟨m, v, rfl, m0, m1, rfl⟩ ⟨rfl, hx⟩
        obtain ⟨z, hz, rfl⟩ : ∃ z, z ∈ cs ∧ V.int z = x := by
          obtain ⟨z, hz, rfl⟩ := List.mem_map.mp (List.mem_of_getElem? hx)
          exact ⟨z, hz, rfl⟩
        refine ⟨_, rfl, m, 16807, rfl, rfl, .inr ⟨by decide, by decide⟩, _, rfl, .inl ⟨_, rfl, ?_⟩⟩
        refine ⟨_, _, rfl, rfl, (by show (0 : Int) < 2147483629; decide), _, _, rfl, rfl, .inl ⟨_, rfl, ?_⟩⟩
        refine ⟨_, _, rfl, rfl, (by show (0 : Int) < 2147483647; decide), ?_⟩
        exact ⟨_, _, rfl, Int.emod_nonneg _ (by decide), Int.emod_lt_of_pos _ (by decide), rfl⟩
      · rintro σ H3 ⟨m, v, rfl, m0, m1, rfl⟩
        -- the great cells, turned about
        refine ⟨_, rfl, D, rfl, ⟨_, SqL.of e2⟩, fun D2 hD2 => ?_⟩
        refine lcS (src_list K D (cs.map V.int)) (fun v => match v with | .int n => decide ((10 : Int) ^ 18 ≤ n) | _ => true) id (SqL.of e2) hD2 (fun _ => rfl) (by rw [List.length_map]; omega) ?_ ?_ ?_
        · intro x hx H' _ Q k
          obtain ⟨n, _, rfl⟩ := List.mem_map.mp hx
          refine ⟨_, rfl, _, _, rfl, rfl, ⟨by decide, by decide, by decide⟩, _, _, rfl, rfl, _, rfl, ?_⟩
          exact k H' (Same.refl _)
        · intro x hx _ H' _ Q k
          exact ⟨_, rfl, k H' (Same.refl _)⟩
        · intro H4 s4 e4
          rw [List.map_id, List.filter_map] at e4
          refine ⟨D2, _, rfl, SqL.of e4, fun c hc => ?_⟩
          refine ⟨_, rfl, (by show 2 ≤ sizeLine; decide), fun d hd => ?_⟩
          generalize hgs : ((cs.filter ((fun v => match v with | .int n => decide ((10 : Int) ^ 18 ≤ n) | _ => true) ∘ V.int)).map V.int).reverse = gs at *
          have hgs' : gs = ((cs.filter ((fun v => match v with | .int n => decide ((10 : Int) ^ 18 ≤ n) | _ => true) ∘ V.int)).reverse).map V.int := by
            rw [← hgs, List.map_reverse]
          have f1 : H c = none := s02.free (s4.free hc)
          have f2 : H d = none := (Same.new (o := .lst gs) (s02.trans s4) hc).free hd
          have ncd : c ≠ d := ne_of_none (H := upd H4 c (.lst gs)) upd_same hd
          refine q d c _ (Same.new (Same.new (s02.trans s4) hc) hd) f2 f1 ⟨(cs.filter ((fun v => match v with | .int n => decide ((10 : Int) ^ 18 ≤ n) | _ => true) ∘ V.int)).reverse, m, ⟨upd_same, ?_, ?_, ?_, m0, m1⟩⟩
          · rw [upd_ne ncd, upd_same, hgs']
          · intro n hn
            exact hcp n (List.mem_filter.mp (List.mem_reverse.mp hn)).1
          · rw [List.length_reverse]
            exact Nat.le_trans (List.length_filter_le _ _) hcl
theorem ok_l_pickS (T : Top K mg) : FnOk P w K mg base CX0 2 T.f_l_pick T.d_l_pick ["_law_deal_here", "_law_some"] spPickS := by
  have G_l_draw : FnOk P w K mg base CX0 1 T.f_l_draw T.d_l_draw ["_law_deal_here", "_law_many"] spDraw := ok_l_draw T
  refine T.F_l_pick.ok sc_l_pick (fun vs H Q E h => ?_) (fun cdv A outer s H vs Q E hr h => ?_)
  · obtain ⟨a, c, l, rfl, _⟩ := h
    rfl
  · obtain ⟨a, c, l, rfl, d, hn, hl, q⟩ := h
    have hpos : 0 < l.length := List.length_pos_iff.mpr hn
    refine ⟨_, (pss_one (ps_ret (pe_ix ix_str (pv 1) (pe_call G_l_draw (hr.mono (by decide)) (by rfl) T.g_l_draw T.F_l_draw.kp T.b_l_draw .nil pass0 (pa_cons (pv 0) (pa_cons (pe_callB call_len_str (by rfl) T.n_len (by decide +kernel) (pa_cons (pv 1) pa_nil)) pa_nil))) (fun _ _ => rfl)))), ?_⟩
    refine ⟨_, rfl, _, rfl, _, rfl, _, rfl, (by rw [S_len, sizeLine_eq]; omega), a, c, _, rfl, d, ?_, ?_, fun r H' r0 r1 d' kp => ?_⟩
    · rw [S_len]; omega
    · rw [S_len]; omega
    · rw [S_len] at r1
      have hi : r.toNat < l.length := by omega
      refine ⟨_, _, l[r.toNat], rfl, rfl, (by rw [S_len, sizeLine_eq]; omega), ?_, q _ _ (List.getElem_mem hi) d' kp⟩
      rw [S_toList]
      exact atI_int r0 (List.getElem?_eq_getElem hi)
theorem ok_l_pickL (T : Top K mg) : FnOk P w K mg base CX0 2 T.f_l_pick T.d_l_pick ["_law_deal_here", "_law_some"] (spPickL K) := by
  have G_l_draw : FnOk P w K mg base CX0 1 T.f_l_draw T.d_l_draw ["_law_deal_here", "_law_many"] spDraw := ok_l_draw T
  refine T.F_l_pick.ok sc_l_pick (fun vs H Q E h => ?_) (fun cdv A outer s H vs Q E hr h => ?_)
  · obtain ⟨a, c, p, xs, rfl, _⟩ := h
    rfl
  · obtain ⟨a, c, p, xs, rfl, d, hp, n1, n2, hn, hl, q⟩ := h
    have hpos : 0 < xs.length := List.length_pos_iff.mpr hn
    refine ⟨_, (pss_one (ps_ret (pe_ix ix_list (pv 1) (pe_call G_l_draw (hr.mono (by decide)) (by rfl) T.g_l_draw T.F_l_draw.kp T.b_l_draw .nil pass0 (pa_cons (pv 0) (pa_cons (pe_callB call_len_seq (by rfl) T.n_len (by decide +kernel) (pa_cons (pv 1) pa_nil)) pa_nil))) (fun _ _ => rfl)))), ?_⟩
    refine ⟨_, rfl, _, rfl, _, rfl, p, _, rfl, .inl hp, a, c, _, rfl, d, (by omega), (by omega), fun r H' r0 r1 d' kp => ?_⟩
    have hi : r.toNat < xs.length := by omega
    exact ⟨p, xs, _, xs[r.toNat], rfl, rfl, kp.sqL n1 n2 hp, atI_int r0 (List.getElem?_eq_getElem hi), q _ _ (List.getElem_mem hi) d' kp⟩
end
end K47
namespace K47
open PySem PySem.Spec PyProof.Rows L2 U
section
variable {P : Program} {w : World} {K : PySem.W.Frag} {mg : Str → Option Value} {base : Heap}
def spLetters2 : Sp := fun vs H Q _ => ∃ (a c : Addr) (z : Int), vs = [.ref a, .int z] ∧ Deal H a c ∧ 2 ≤ z ∧ z ≤ 10 ∧ ∀ l H', (∃ n : Nat, 2 ≤ n ∧ (n : Int) ≤ z ∧ Letters l n) → Deal H' a c → Kp a c H H' → Q (.str (S l)) H'
/-- a text over letters -/
def spText : Sp := fun vs H Q _ => ∃ (a c : Addr) (l : List Nat) (z : Int), vs = [.ref a, .str (S l), .int z] ∧ Deal H a c ∧ l ≠ [] ∧ l.length ≤ 1000 ∧ 0 ≤ z ∧ z ≤ 1000 ∧
  ∀ (x : List Nat) H', (x.length : Int) ≤ z → (∀ y ∈ x, y ∈ l) → Deal H' a c → Kp a c H H' → Q (.str (S x)) H'
def spValue : Sp := fun vs H Q _ => ∃ (a c : Addr), vs = [.ref a] ∧ Deal H a c ∧ ∀ (v : Int) H', 0 ≤ v → v < 10 ^ 18 → Deal H' a c → Kp a c H H' → Q (.int v) H'
theorem ok_l_letters (T : Top K mg) : FnOk P w K mg base CX0 2 T.f_l_letters T.d_l_letters ["_law_deal_here", "_law_most"] spLetters2 := by
  have G_l_draw : FnOk P w K mg base CX0 1 T.f_l_draw T.d_l_draw ["_law_deal_here", "_law_many"] spDraw := ok_l_draw T
  refine T.F_l_letters.ok sc_l_letters (fun vs H Q E h => ?_) (fun cdv A outer s H vs Q E hr h => ?_)
  · obtain ⟨a, c, z, rfl, _⟩ := h
    rfl
  · obtain ⟨a, c, z, rfl, d, hz0, hn, q⟩ := h
    refine ⟨_, (pss_cons (ps_par (i := 2) (j := 3) (by rfl) sc_l_letters.nd rfl rfl (by decide) rfl rfl (pa_cons (pe_callTy (U.call_listS rfl) (by rfl) T.n_list (by decide +kernel) (pa_cons pe_str pa_nil)) (pa_cons (pe_lst pa_nil) pa_nil)) (by rfl))
        (pss_cons (ps_for PassesOwn.never rfl (pi_range1 (by rfl) T.n_range (pa_cons (pe_op op_add pe_int (pe_call G_l_draw (hr.mono (by decide)) (by rfl) T.g_l_draw T.F_l_draw.kp T.b_l_draw .nil pass0 (pa_cons (pv 0) (pa_cons (pe_op op_sub (pv 1) pe_int) pa_nil)))) pa_nil)) (pg_name (i := 4) sc_l_letters.nd rfl (Or.inl rfl)) (pss_one (ps_expr (pe_bm PySem.F.plainAttrs_list PySem.F.slot_list_append PySem.F.type_list_append mt_append (pv 3) (pa_cons (pe_bm PySem.F.plainAttrs_list PySem.F.slot_list_pop PySem.F.type_list_pop mt_popAt (pv 2) (pa_cons (pe_call G_l_draw (hr.mono (by decide)) (by rfl) T.g_l_draw T.F_l_draw.kp T.b_l_draw .nil pass0 (pa_cons (pv 0) (pa_cons (pe_callB call_len_seq (by rfl) T.n_len (by decide +kernel) (pa_cons (pv 2) pa_nil)) pa_nil))) pa_nil)) pa_nil)))))
        (pss_one (ps_ret (pe_join pe_str (pe_callB U.cr_sortedA (by rfl) T.n_sorted (by decide +kernel) (pa_cons (pe_lc (own := [("_law_sign", 5)]) (g := gName 5) (tt := tYes) (by rfl) sc_l_letters.nd (pi_list (pv 3)) (blkOk_by (own := [("_law_sign", 5)]) (N := ["_law_deal_here", "_law_most", "_law_left", "_law_found", "_law_k", "_law_sign"]) (sc := defScope s_l_letters) (by decide +kernel)) (fun _ _ _ _ _ => pg_name (i := 5) sc_l_letters.nd rfl (Or.inl rfl)) (fun _ _ _ _ _ => pts_nil) (fun _ _ _ _ _ => (pe_callTy SkE.call_str_str (by rfl) T.n_str (by decide +kernel) (pa_cons (pv 5) pa_nil)))) pa_nil))))))), ?_⟩
    refine ⟨signs, (by rw [signs_S]), (by rw [signs_len, sizeLine_eq]; omega), fun p hp => ⟨Nat.zero_le _, fun f hf => ⟨_, _, rfl, ?_⟩⟩⟩
    have d1 : Deal (upd (upd H p (.lst (chars signs))) f (.lst [])) a c := (d.new hp).new hf
    have npf : p ≠ f := ne_of_none (H := upd H p (.lst (chars signs))) upd_same hf
    have hf0 : H f = none := by
      rw [upd_ne npf.symm] at hf
      exact hf
    refine ⟨_, rfl, _, rfl, _, _, rfl, rfl, a, c, _, rfl, d1, (by omega), (by omega), fun r H1 r0 r1 d2 kp2 => ?_⟩
    obtain ⟨m, rfl⟩ := nat_of r0
    obtain ⟨n, hn2⟩ : ∃ n : Nat, n = m + 2 := ⟨_, rfl⟩
    have en : (2 + (m : Int)) = (n : Int) := by omega
    have nP := (d.new hp).ne hf
    have np0 := d.ne hp
    have eP : H1 p = some (.lst (chars signs)) := kp2 _ _ np0.1 np0.2 (by rw [upd_ne npf, upd_same])
    have eF : H1 f = some (.lst []) := kp2 _ _ (d.ne hf0).1 (d.ne hf0).2 upd_same
    refine ⟨_, _, rfl, rfl, (n : Int), (by show [V.int (2 + (m : Int))] = _; rw [en]), by omega, by omega, ?_⟩
    refine for_it (src_range 0 (n : Int).toNat).w (fun i σ H' => ∃ (v : Option V) (rest got : List Nat), σ = [some (.ref a), some (.int z), some (.ref p), some (.ref f), v, none] ∧ Deal H' a c ∧ Kp a c H H' ∧ H' p = some (.lst (chars rest)) ∧ H' f = some (.lst (chars got)) ∧ (got ++ rest).Perm signs ∧ got.length = i)
      ⟨none, signs, [], rfl, d2, (((Kp.refl _ _ _).new hp).new hf0).trans kp2, eP, eF, List.Perm.refl _, rfl⟩ (fun _ _ _ _ _ => trivial) ?_ ?_
    · rintro i x σ H1 H2 hi ⟨v, rest, got, rfl, d2, kp, e1, e2, pm, gl⟩ ⟨rfl, hx⟩
      rw [rngV_len] at hi
      have hrl : got.length + rest.length = 40 := by
        have := pm.length_eq
        rw [List.length_append, signs_len] at this
        exact this
      have hcl : (chars rest).length = rest.length := by simp [chars]
      have np := d.ne hp
      have nf := d.ne hf0
      refine ⟨_, rfl, .inl ⟨rfl, _, SqL.of e2⟩, _, rfl, .inl ⟨rfl, _, SqL.of e1⟩, _, rfl, _, rfl, p, _, rfl, .inl (SqL.of e1), a, c, _, rfl, d2, (by omega), (by omega), fun r H3 r0 r1 d3 kp3 => ?_⟩
      rw [hcl] at r1
      have e1' := kp3 _ _ np.1 np.2 e1
      have e2' := kp3 _ _ nf.1 nf.2 e2
      have hr : r.toNat < rest.length := by omega
      refine ⟨p, _, r, r.toNat, .str (S [rest[r.toNat]]), rfl, rfl, e1', (by omega), (by omega), seqIx r0 (by omega), by simp [chars, hr], ?_⟩
      have e2'' : (upd H3 p (.lst ((chars rest).eraseIdx r.toNat))) f = some (.lst (chars got)) := by
        rw [upd_ne npf.symm]
        exact e2'
      refine ⟨f, _, _, rfl, rfl, e2'', ?_, ?_⟩
      · have : (chars got).length = got.length := by simp [chars]
        rw [this]
        exact small1000 (by omega)
      · refine ⟨_, rest.eraseIdx r.toNat, got ++ [rest[r.toNat]], rfl, (d3.upd np.1 np.2).upd nf.1 nf.2, ((kp.trans kp3).new hp).new hf0, ?_, ?_, ?_, by simp [gl]⟩
        · rw [upd_ne npf, upd_same]
          rw [show (chars rest).eraseIdx r.toNat = chars (rest.eraseIdx r.toNat) from map_erase _ _ _]
        · rw [upd_same]
          simp [chars]
        · refine List.Perm.trans ?_ pm
          rw [List.append_assoc]
          refine List.Perm.append_left _ ?_
          exact erase_perm rest r.toNat hr
    · rintro σ H1 ⟨v, rest, got, rfl, d2, kp, e1, e2, pm, gl⟩
      rw [rngV_len] at gl
      have gl : got.length = n := by simpa using gl
      have hcl : (chars got).length = got.length := by simp [chars]
      refine ⟨⟨_, rfl⟩, _, rfl, f, rfl, ⟨_, SqL.of e2⟩, fun D hD => ?_⟩
      refine lcM (src_list K f (chars got)) id (SqL.of e2) hD (fun _ => rfl) (by omega) ?_ ?_
      · intro x hx H' _ Q k
        obtain ⟨z, _, rfl⟩ := List.mem_map.mp hx
        exact ⟨_, rfl, _, rfl, k H' (Same.refl _)⟩
      · intro H2 s2 eD
        rw [List.map_id, chars_eq] at eD
        refine ⟨D, _, rfl, SqL.of eD, fun ys q1 pm2 hs hq1 => ?_⟩
        obtain ⟨l, pl, rfl⟩ := perm_ones pm2
        have hll : l.length = n := by rw [pl.length_eq, gl]
        refine ⟨S [], q1, _, rfl, rfl, .inl (SqL.of upd_same), ?_, ?_⟩
        · rw [len_ones, S_len, List.length_map]
          simp only [List.length_nil]
          omega
        · rw [joinOnes]
          have nd : got.Nodup := (List.nodup_append.mp (pm.nodup_iff.mpr signs_nd)).1
          refine q l _ ⟨n, by omega, by omega, hll, asc_of (sorted_ones hs) (pl.nodup_iff.mpr nd), fun x hx => pm.mem_iff.mp (List.mem_append_left _ (pl.mem_iff.mp hx))⟩ ?_ ?_
          · obtain ⟨ns, m, d2⟩ := d2
            refine ⟨ns, m, ⟨?_, ?_, d2.pos, d2.few, d2.m0, d2.m1⟩⟩
            · rw [upd_ne (ne_of_none (s2 _ _ d2.hd) hq1)]
              exact s2 _ _ d2.hd
            · rw [upd_ne (ne_of_none (s2 _ _ d2.cs) hq1)]
              exact s2 _ _ d2.cs
          · exact (kp.trans (Same.kp s2)).new' hq1
theorem ok_l_text (T : Top K mg) : FnOk P w K mg base CX0 3 T.f_l_text T.d_l_text ["_law_deal_here", "_law_letters_here", "_law_most"] spText := by
  have G_l_draw : FnOk P w K mg base CX0 1 T.f_l_draw T.d_l_draw ["_law_deal_here", "_law_many"] spDraw := ok_l_draw T
  have G_l_pick : FnOk P w K mg base CX0 2 T.f_l_pick T.d_l_pick ["_law_deal_here", "_law_some"] spPickS := ok_l_pickS T
  refine T.F_l_text.ok sc_l_text (fun vs H Q E h => ?_) (fun cdv A outer s H vs Q E hr h => ?_)
  · obtain ⟨a, c, l, z, rfl, _⟩ := h
    rfl
  · obtain ⟨a, c, l, z, rfl, d, hne, hl, hz0, hn, q⟩ := h
    refine ⟨_, (pss_cons (ps_par (i := 3) (j := 4) (by rfl) sc_l_text.nd rfl rfl (by decide) rfl rfl (pa_cons (pe_call G_l_draw (hr.mono (by decide)) (by rfl) T.g_l_draw T.F_l_draw.kp T.b_l_draw .nil pass0 (pa_cons (pv 0) (pa_cons (pe_op op_add (pv 2) pe_int) pa_nil))) (pa_cons (pe_call G_l_draw (hr.mono (by decide)) (by rfl) T.g_l_draw T.F_l_draw.kp T.b_l_draw .nil pass0 (pa_cons (pv 0) (pa_cons pe_int pa_nil))) pa_nil)) (by rfl))
        (pss_cons (ps_set (i := 5) sc_l_text.nd rfl (Or.inl rfl) (pe_ix ix_list (pe_lst (pa_cons (pv 3) (pa_cons (pv 3) (pa_cons pe_int (pa_cons pe_int pa_nil))))) (pv 4) (fun _ _ => rfl)))
        (pss_cons (ps_set (i := 6) sc_l_text.nd rfl (Or.inl rfl) (pe_join pe_str (pe_lc (own := [("_law_k", 7)]) (g := gName 7) (tt := tYes) (by rfl) sc_l_text.nd (pi_range1 (by rfl) T.n_range (pa_cons (pv 5) pa_nil)) (blkOk_by (own := [("_law_k", 7)]) (N := ["_law_deal_here", "_law_letters_here", "_law_most", "_law_size", "_law_form", "_law_many", "_law_word", "_law_k"]) (sc := defScope s_l_text) (by decide +kernel)) (fun _ _ _ _ _ => pg_name (i := 7) sc_l_text.nd rfl (Or.inl rfl)) (fun _ _ _ _ _ => pts_nil) (fun _ _ _ _ _ => (pe_call G_l_pick (hr.mono (by decide)) (by rfl) T.g_l_pick T.F_l_pick.kp T.b_l_pick .nil pass0 (pa_cons (pv 0) (pa_cons (pv 1) pa_nil)))))))
        (pss_one (ps_ret (pe_ifExp (pt_cmpR op_lt (pv 4) pe_int (nomark _)) (pv 6) (pe_slice sl_str (pe_op U.op_mul_str (pv 6) (pv 3)) po_none (po_some (pv 3))))))))), ?_⟩
    refine ⟨_, rfl, _, rfl, _, _, rfl, rfl, a, c, _, rfl, d, (by omega), (by omega), fun r H1 r0 r1 d1 kp1 => ?_⟩
    refine ⟨_, rfl, a, c, _, rfl, d1, (by decide), (by decide), fun k H2 k0 k1 d2 kp2 => ?_⟩
    have kp := kp1.trans kp2
    refine ⟨_, _, rfl, ?_⟩
    refine ⟨_, rfl, _, rfl, (by show (4 : Nat) ≤ sizeLine; decide), fun p hp => ?_⟩
    obtain ⟨m, hm, m0, m1, m2⟩ : ∃ m : Int, atI [V.int r, V.int r, V.int 1, V.int 2] k = some (.int m) ∧ 0 ≤ m ∧ m ≤ 1000 ∧ (k < 2 → m = r) := by
      have hk : k = 0 ∨ k = 1 ∨ k = 2 ∨ k = 3 := by omega
      rcases hk with rfl | rfl | rfl | rfl
      · exact ⟨r, rfl, r0, by omega, fun _ => rfl⟩
      · exact ⟨r, rfl, r0, by omega, fun _ => rfl⟩
      · exact ⟨1, rfl, by omega, by omega, fun h => by omega⟩
      · exact ⟨2, rfl, by omega, by omega, fun h => by omega⟩
    refine ⟨_, rfl, p, _, k, .int m, rfl, rfl, SqL.of upd_same, hm, ?_⟩
    have d3 := d2.new (o := .lst [V.int r, V.int r, V.int 1, V.int 2]) hp
    have kp3 := kp.new' (o := .lst [V.int r, V.int r, V.int 1, V.int 2]) hp
    generalize upd H2 p _ = H3 at d3 kp3 ⊢
    refine ⟨⟨_, rfl⟩, _, rfl, m, rfl, by omega, by omega, fun D hD => ?_⟩
    have hD0 : H D = none := d.free kp3 d3 hD
    have nD := d3.ne hD
    refine lc_it (src_range 0 m.toNat).w (fun i H' => ∃ x : List Nat, Deal H' a c ∧ Kp a c H H' ∧ H' D = some (.lst (chars x)) ∧ x.length = i ∧ ∀ y ∈ x, y ∈ l) ⟨[], d3.new hD, kp3.new hD0, by rw [upd_same]; rfl, rfl, fun _ h => (nomatch h)⟩ (fun _ _ _ _ => trivial) ?_ ?_
    · rintro i x H4 H5 hi ⟨z, d4, kp4, e4, zl, zs⟩ ⟨rfl, hx⟩
      rw [rngV_len] at hi
      refine ⟨rfl, ?_⟩
      refine ⟨_, rfl, _, rfl, a, c, l, rfl, d4, hne, hl, fun y H6 hy d6 kp6 => ?_⟩
      refine ⟨_, kp6 _ _ nD.1 nD.2 e4, ?_, z ++ [y], d6.upd nD.1 nD.2, (kp4.trans kp6).new hD0, ?_, by simp [zl], ?_⟩
      · have : (chars z).length = z.length := by simp [chars]
        rw [this, zl, sizeLine_eq]
        omega
      · rw [upd_same]
        simp [chars]
      · intro u hu
        rcases List.mem_append.mp hu with h | h
        · exact zs u h
        · rw [List.mem_singleton.mp h]
          exact hy
    · rintro H4 ⟨x, d4, kp4, e4, xl, xs⟩
      rw [rngV_len] at xl
      rw [chars_eq] at e4
      refine ⟨S [], D, _, rfl, rfl, .inl (SqL.of e4), ?_, ?_⟩
      · rw [len_ones, S_len, List.length_map]
        simp only [List.length_nil]
        omega
      rw [joinOnes]
      refine ⟨_, rfl, _, _, rfl, rfl, _, rfl, ?_⟩
      refine ite2 (fun h2 => ?_) (fun _ => ?_)
      · refine ⟨_, rfl, q x _ ?_ xs d4 kp4⟩
        have := m2 (of_decide_eq_true h2)
        omega
      · obtain ⟨n, rfl⟩ := nat_of r0
        have hb : x.length * n ≤ 1000000 := Nat.le_trans (Nat.mul_le_mul (show x.length ≤ 1000 by omega) (show n ≤ 1000 by omega)) (by decide)
        refine ⟨_, rfl, _, rfl, x, n, rfl, rfl, hb, by omega, _, rfl, _, rfl, _, rfl, ?_, ?_⟩
        · rw [S_len, rep_len, Nat.mul_comm, sizeLine_eq]
          omega
        · rw [cut_take _ r0, Int.toNat_natCast]
          refine q _ _ ?_ (fun y hy => xs y (rep_mem (List.mem_of_mem_take hy))) d4 kp4
          rw [List.length_take]
          omega
theorem ok_l_value (T : Top K mg) : FnOk P w K mg base CX0 2 T.f_l_value T.d_l_value ["_law_deal_here"] spValue := by
  have G_l_draw : FnOk P w K mg base CX0 1 T.f_l_draw T.d_l_draw ["_law_deal_here", "_law_many"] spDraw := ok_l_draw T
  refine T.F_l_value.ok sc_l_value (fun vs H Q E h => ?_) (fun cdv A outer s H vs Q E hr h => ?_)
  · obtain ⟨a, c, rfl, _⟩ := h
    rfl
  · obtain ⟨a, c, rfl, d, q⟩ := h
    refine ⟨_, (pss_cons (ps_set (i := 1) sc_l_value.nd rfl (Or.inl rfl) (pe_call G_l_draw (hr.mono (by decide)) (by rfl) T.g_l_draw T.F_l_draw.kp T.b_l_draw .nil pass0 (pa_cons (pv 0) (pa_cons pe_int pa_nil))))
        (pss_cons (ps_if (pt_cmpR op_eq (pv 1) pe_int (nomark _)) (pss_one (ps_ret (pe_op op_sub (pe_op op_sub (pe_op op_pow pe_int pe_int) pe_int) (pe_call G_l_draw (hr.mono (by decide)) (by rfl) T.g_l_draw T.F_l_draw.kp T.b_l_draw .nil pass0 (pa_cons (pv 0) (pa_cons pe_int pa_nil)))))) pss_nil)
        (pss_one (ps_ret (pe_ix ix_list (pe_lst (pa_cons (pe_call G_l_draw (hr.mono (by decide)) (by rfl) T.g_l_draw T.F_l_draw.kp T.b_l_draw .nil pass0 (pa_cons (pv 0) (pa_cons pe_int pa_nil))) (pa_cons (pe_call G_l_draw (hr.mono (by decide)) (by rfl) T.g_l_draw T.F_l_draw.kp T.b_l_draw .nil pass0 (pa_cons (pv 0) (pa_cons pe_int pa_nil))) pa_nil))) (pe_callTy call_int1 (by rfl) T.n_int (by decide +kernel) (pa_cons (pe_cmpR op_eq (pv 1) pe_int (nomark _)) pa_nil)) (fun _ _ => rfl)))))), ?_⟩
    refine ⟨_, rfl, a, c, _, rfl, d, (by decide), (by decide), fun r H1 r0 r1 d1 kp1 => ?_⟩
    refine ⟨_, rfl, rfl, _, rfl, ?_⟩
    dsimp only
    refine ite2 (fun _ => ?_) (fun _ => ?_)
    · refine ⟨_, _, rfl, rfl, ⟨by decide, by decide, by decide⟩, _, _, rfl, rfl, _, rfl, a, c, _, rfl, d1, (by decide), (by decide), fun k H2 k0 k1 d2 kp2 => ?_⟩
      refine ⟨_, _, rfl, rfl, q _ _ ?_ ?_ d2 (kp1.trans kp2)⟩
      · show (0 : Int) ≤ 10 ^ 18 - 1 - k
        omega
      · show (10 : Int) ^ 18 - 1 - k < 10 ^ 18
        omega
    · refine ⟨_, rfl, a, c, _, rfl, d1, (by decide), (by decide), fun u H2 u0 u1 d2 kp2 => ?_⟩
      refine ⟨_, rfl, a, c, _, rfl, d2, (by decide), (by decide), fun v H3 v0 v1 d3 kp3 => ?_⟩
      refine ⟨(by show (2 : Nat) ≤ sizeLine; decide), fun p hp => ?_⟩
      have d4 := d3.new (o := .lst [.int u, .int v]) hp
      have kp := (kp1.trans (kp2.trans kp3)).new' (o := .lst [.int u, .int v]) hp
      refine ⟨_, rfl, rfl, .inr ⟨_, rfl, ?_⟩⟩
      by_cases h4 : r = 4
      · subst h4
        exact ⟨p, _, 1, .int v, rfl, rfl, SqL.of upd_same, rfl, q _ _ v0 (by omega) d4 kp⟩
      · have e : decide (V.int r = V.int 4) = false := decide_eq_false fun z => h4 (by injection z)
        rw [e]
        exact ⟨p, _, 0, .int u, rfl, rfl, SqL.of upd_same, rfl, q _ _ u0 (by omega) d4 kp⟩
end
end K47
/-! U14: raising own exceptions that hold a field; what a suite asks of one -/
namespace U
open PySem PySem.Spec PyProof.Rows L2
section
variable {X : Cx} {pins : List (Addr × Obj)} {σ : L2.St} {H : Hp} {s : Shared}
/-- a thing told by a fact is told otherwise -/
theorem Inv.retag {a : Addr} {φ : Heap → Prop} {o : HO} (I : Inv X pins σ H s) (h : H a = some (.ext φ)) (new : ObjOk X.prog X.w (upd H a o) s.heap a o) : Inv X pins σ (upd H a o) s := by
  have mu : Mut (H a) := by rw [h]; trivial
  have he : ∃ u, s.heap.get? a = some u := by
    obtain ⟨_, q, _⟩ := I.hok a _ h
    exact q
  have J := I.un (t' := s.toks) (Un.write (o := o) mu (.inl rfl) (fun b u _ e => e) he) (I.hok.write mu (.inl rfl) (fun b u _ e => e) he new)
  exact J
theorem pmk_exc {e : Expr} {te : TE} (hx : X.ex = []) (he : PE X e te) :
    PMk X e (fun σ H Q => te σ H fun x H1 => ∃ a C dx fs, x = .ref a ∧ H1 a = some (exo a C (some dx)) ∧ H1 dx = some (exd dx fs) ∧ a ≠ dx ∧ Fr0 X.H_0 a ∧ Raises X (.ref C) ∧ Q (.ref C) (some dx) (upd (delH H1 a) dx (.xd fs))) := by
  intro pins s σ H Q I h
  refine wpAny_mono (he.run pins s σ H _ I h) (fun u s1 hu => ?_) fun _ _ x => x
  obtain ⟨v, H1, I1, r1, a, C, dx, fs, rfl, ha, hd, ne, h0, hr, q⟩ := hu
  cases r1
  obtain ⟨t1, ho⟩ := exo_at I1.hok ha
  obtain ⟨G, gs, ga, J⟩ := I1.untrack ha h0 hx
  have hd' : delH H1 a dx = some (exd dx fs) := by rw [delH_ne ne.symm]; exact hd
  obtain ⟨mA, hns, hrel⟩ := exd_at J.hok hd'
  have J2 := Inv.retag (o := .xd fs) J hd' ⟨mA, hns, hrel⟩
  refine ⟨a, _, _, { s1 with heap := G }, _, .ref C, some dx, rfl, J2, gs, ga, ho, ⟨rfl, rfl⟩, rfl, rfl, ?_, rfl, I1.bare, hr, q⟩
  rw [upd_ne ne, delH_same]
/-- isinstance(e, c) in a suite -/
def rIsEx (K : PySem.W.Frag) (a : Addr) (cls : Value) (d : Option Addr) : List V → Hp → VK → Prop := fun xs H Q => ∃ (D : Addr) (c : V) (cv : Value) (b : Bool), xs = [.ref a, c] ∧ cls = .ref D ∧ (d = none ∨ ∃ dd fs, d = some dd ∧ H dd = some (.xd fs)) ∧ ExcC K D ∧ ClsV c cv ∧ PySem.W.kitOne K (.ref D) cv = some b ∧ Q (.bl b) H
theorem inst_ex {a D : Addr} {oe : Obj} {d : Option Addr} {pn : List (Addr × Obj)} (I : Inv (X.suite a ((a, oe) :: pn)) pins σ H s) (hz : Zc (.ref D) d oe) (hf : ∃ vs, oe.data = .fields vs) (hd : d = none ∨ ∃ dd fs, d = some dd ∧ H dd = some (.xd fs)) : ∃ od, PySem.W.InstAt s.heap a oe D od := by
  obtain ⟨ha, _⟩ := I.pin (a, oe) (List.mem_append_left _ List.mem_cons_self)
  obtain ⟨vs, hv⟩ := hf
  obtain ⟨oc, od, oda, osl⟩ := oe
  obtain ⟨h1, h2⟩ := hz
  dsimp only at h1 h2 hv
  subst h1 h2 hv
  rcases hd with rfl | ⟨dd, fs, rfl, e⟩
  · exact ⟨none, ha, rfl, rfl, trivial⟩
  · have hx : ObjOk X.prog X.w H s.heap dd (.xd fs) := I.hok dd _ e
    obtain ⟨mA, hns, hr⟩ := hx
    obtain ⟨od, ho, hl⟩ := lookIn_ns hns
    exact ⟨some od, ha, rfl, rfl, ho⟩
theorem call_isEx {a : Addr} {oe : Obj} {cls : Value} {d : Option Addr} {pn : List (Addr × Obj)} (hz : Zc cls d oe) (hf : ∃ vs, oe.data = .fields vs) : CallR (X.suite a ((a, oe) :: pn)) (.builtin "isinstance") (rIsEx X.K a cls d) := by
  intro pins s σ H xs us Q I r h
  obtain ⟨D, c, cv, b, rfl, rfl, hd, C, hc, e, q⟩ := h
  obtain ⟨u1, u2, rfl, r1, r2⟩ := vals2 r
  cases (show u1 = Value.ref a from r1)
  have e2 := hc.eq r2
  subst e2
  have hcl : (PySem.W.clsIn X.K D).isSome = true := by
    obtain ⟨cd, z, _⟩ := PySem.W.any_some C.hd
    rw [z]
    rfl
  obtain ⟨od, J⟩ := inst_ex I hz hf hd
  exact PySem.W.kia_one (PySem.W.kitx_exc hcl C.hg C.hk C.hs C.ha C.hn C.ht C.hm) I.kIn J e (fun z => nomatch z) fun tk => ⟨.bl b, H, I.tok tk, rfl, q⟩
end
end U
/-! U15: what values are; promises of the functions on texts and values -/
namespace U
open PySem PySem.Spec PyProof.Rows L2
theorem if_true_of {b : Bool} {A B : Prop} (h : b = true) (k : A) : (if b = true then A else B) := by rw [if_pos h]; exact k
theorem if_false_of {b : Bool} {A B : Prop} (h : b = false) (k : B) : (if b = true then A else B) := by rw [h]; exact k
/-- no text -/
def NotS (H : Hp) (v : V) : Prop := v = .non ∨ (∃ b, v = .bl b) ∨ (∃ i, v = .int i) ∨ ∃ p xs, v = .ref p ∧ (H p = some (.lst xs) ∨ H p = some (.tup xs))
theorem NotS.ty {K : PySem.W.Frag} {H : Hp} {v : V} (h : NotS H v) : ∃ t, TyX K H v t ∧ PySem.W.kitOne K t (.type "str") = some false := by
  rcases h with rfl | ⟨b, rfl⟩ | ⟨i, rfl⟩ | ⟨p, xs, rfl, e | e⟩
  · exact ⟨_, .base .non, kit_ty (by decide +kernel)⟩
  · exact ⟨_, .base (.bl b), kit_ty (by decide +kernel)⟩
  · exact ⟨_, .base (.int i), kit_ty (by decide +kernel)⟩
  · exact ⟨_, .base (.lst e), kit_ty (by decide +kernel)⟩
  · exact ⟨_, .base (.tup e), kit_ty (by decide +kernel)⟩
theorem NotS.same {H H' : Hp} {v : V} (h : NotS H v) (s : Same H H') : NotS H' v := by
  rcases h with h | h | h | ⟨p, xs, rfl, e | e⟩
  · exact .inl h
  · exact .inr (.inl h)
  · exact .inr (.inr (.inl h))
  · exact .inr (.inr (.inr ⟨p, xs, rfl, .inl (s _ _ e)⟩))
  · exact .inr (.inr (.inr ⟨p, xs, rfl, .inr (s _ _ e)⟩))
theorem isiS {K : PySem.W.Frag} {H : Hp} {z : Str} {Q : VK} (k : Q (.bl true) H) : rIsi K [.str z, .ty "str"] H Q := ⟨.str z, .ty "str", .type "str", .type "str", true, rfl, .ty _, .base (.str z), kit_ty (by decide +kernel), k⟩
theorem isiN {K : PySem.W.Frag} {H : Hp} {v : V} {Q : VK} (h : NotS H v) (k : Q (.bl false) H) : rIsi K [v, .ty "str"] H Q := by
  obtain ⟨t, ht, kt⟩ := h.ty (K := K)
  exact ⟨v, .ty "str", t, .type "str", false, rfl, .ty _, ht, kt, k⟩
/-- letters as they must be -/
def asc (l : List Nat) : Bool := (List.range (l.length - 1)).all fun i => decide (l.getD i 0 < l.getD (i + 1) 0)
def within (L l : List Nat) : Bool := l.all fun c => decide (c ∈ L)
def good (l : List Nat) : Bool := decide (2 ≤ l.length ∧ l.length ≤ 5) && (within U.signs l && asc l)
def sp_are : Sp := fun vs H Q _ => ∃ v, vs = [v] ∧ ((∃ l, v = .str (S l) ∧ l.length ≤ 1000 ∧ ∀ H', Same H H' → Q (.bl (good l)) H') ∨ (NotS H v ∧ ∀ H', Same H H' → Q (.bl false) H'))
def sp_text : Sp := fun vs H Q _ => ∃ (L : List Nat) (v : V), vs = [.str (S L), v] ∧ ((∃ l, v = .str (S l) ∧ l.length ≤ 1000 ∧ ∀ H', Same H H' → Q (.bl (within L l)) H') ∨ (NotS H v ∧ ∀ H', Same H H' → Q (.bl false) H'))
/-- the one sign of a value -/
def sg : V → Nat | .str z => z.cps.toList.headD 0 | _ => 0
theorem chars_mem {l : List Nat} {x : V} (h : x ∈ chars l) : ∃ c, c ∈ l ∧ x = .str (S [c]) := by
  simp only [chars, List.mem_map] at h
  obtain ⟨c, hc, rfl⟩ := h
  exact ⟨c, hc, rfl⟩
theorem chars_map (l : List Nat) (g : Nat → Bool) : (chars l).map (fun x => V.bl (g (sg x))) = (l.map g).map V.bl := by
  simp [chars, sg, S]
theorem lt_one (c d : Nat) : decide ((S [c]).cps.toList < (S [d]).cps.toList) = decide (c < d) := by
  rw [S_toList, S_toList]
  congr 1
  simp [List.cons_lt_cons_iff]
theorem all_id (g : Nat → Bool) (l : List Nat) : (l.map g).all id = l.all g := by simp [List.all_map]
def ascF (l : List Nat) : V → V | .int i => .bl (decide (l.getD i.toNat 0 < l.getD (i.toNat + 1) 0)) | _ => .non
theorem ascF_map (l : List Nat) (n : Nat) : (rngV 0 n).map (ascF l) = ((List.range n).map fun i => decide (l.getD i 0 < l.getD (i + 1) 0)).map V.bl := by
  simp [rngV, ascF]
/-- no int -/
def NotI (H : Hp) (v : V) : Prop := v = .non ∨ (∃ b, v = .bl b) ∨ (∃ z, v = .str z) ∨ ∃ p xs, v = .ref p ∧ (H p = some (.lst xs) ∨ H p = some (.tup xs))
theorem NotI.ty {K : PySem.W.Frag} {H : Hp} {v : V} (h : NotI H v) (hb : ∀ b, v ≠ .bl b) : ∃ t, TyX K H v t ∧ PySem.W.kitOne K t (.type "int") = some false := by
  rcases h with rfl | ⟨b, rfl⟩ | ⟨z, rfl⟩ | ⟨p, xs, rfl, e | e⟩
  · exact ⟨_, .base .non, kit_ty (by decide +kernel)⟩
  · exact absurd rfl (hb b)
  · exact ⟨_, .base (.str z), kit_ty (by decide +kernel)⟩
  · exact ⟨_, .base (.lst e), kit_ty (by decide +kernel)⟩
  · exact ⟨_, .base (.tup e), kit_ty (by decide +kernel)⟩
theorem NotI.same {H H' : Hp} {v : V} (h : NotI H v) (s : Same H H') : NotI H' v := by
  rcases h with h | h | h | ⟨p, xs, rfl, e | e⟩
  · exact .inl h
  · exact .inr (.inl h)
  · exact .inr (.inr (.inl h))
  · exact .inr (.inr (.inr ⟨p, xs, rfl, .inl (s _ _ e)⟩))
  · exact .inr (.inr (.inr ⟨p, xs, rfl, .inr (s _ _ e)⟩))
def sp_isint : Sp := fun vs H Q _ => ∃ v, vs = [v] ∧ ((∃ i, v = .int i ∧ Q (.bl true) H) ∨ (NotI H v ∧ Q (.bl false) H))
def sp_isval : Sp := fun vs H Q _ => ∃ v, vs = [v] ∧ ((∃ i, v = .int i ∧ Q (.bl (decide (0 ≤ i))) H) ∨ (NotI H v ∧ Q (.bl false) H))
def Thrown (E : XK) (C : Addr) (fn : Str) (v : V) (H : Hp) : Prop := ∀ H' dx, Same H H' → H dx = none → H' dx = some (.xd [(fn, v)]) → E (.ref C) (some dx) H'
theorem Thrown.same {E : XK} {C : Addr} {fn : Str} {v : V} {H H1 : Hp} (t : Thrown E C fn v H) (s : Same H H1) : Thrown E C fn v H1 := fun H' dx s' n e => t H' dx (s.trans s') (s.free n) e
def sp_need (C : Addr) : Sp := fun vs H Q E => ∃ (L : List Nat) (v : V), vs = [.str (S L), v] ∧ ((∃ l, v = .str (S l) ∧ l.length ≤ 1000 ∧ (within L l = true → ∀ H', Same H H' → Q .non H') ∧ (within L l = false → Thrown E C "value" v H)) ∨ (NotS H v ∧ Thrown E C "value" v H))
def sp_needV (C : Addr) : Sp := fun vs H Q E => ∃ v, vs = [v] ∧ ((∃ i, v = .int i ∧ (0 ≤ i → Q .non H) ∧ (¬ 0 ≤ i → Thrown E C "value" v H)) ∨ (NotI H v ∧ Thrown E C "value" v H))
def sp_check (C : Addr) : Sp := fun vs H Q E => ∃ v, vs = [v] ∧ ((∃ l, v = .str (S l) ∧ l.length ≤ 1000 ∧ (good l = true → ∀ H', Same H H' → Q (.bl true) H') ∧ (good l = false → ∀ H', Same H H' → E (.ref C) none H')) ∨ (NotS H v ∧ ∀ H', Same H H' → E (.ref C) none H'))
/-- what raising such an exception asks -/
theorem throw_it {E : XK} {C a dx : Addr} {fn : Str} {v : V} {H H1 : Hp} (t : Thrown E C fn v H) (s : Same H H1) (ha : H1 a = none) (hd : H1 dx = none) (ne : a ≠ dx) :
    E (.ref C) (some dx) (upd (delH (upd (upd H1 dx (exd dx [(fn, v)])) a (exo a C (some dx))) a) dx (.xd [(fn, v)])) := by
  refine t _ dx (fun b o e => ?_) (s.free hd) upd_same
  have h1 := s b o e
  rw [upd_ne (ne_of_none h1 hd), delH_ne (ne_of_none h1 ha), upd_ne (ne_of_none h1 ha), upd_ne (ne_of_none h1 hd)]
  exact h1
def between_ (x lo : List Nat) (hi af : Option (List Nat)) : Bool := btw lo hi af x
def sp_between : Sp := fun vs H Q _ => ∃ (x lo : List Nat) (hi af : Option (List Nat)), vs = [.str (S x), .str (S lo), optV hi, optV af] ∧ Q (.bl (btw lo hi af x)) H
end U
namespace K47
open PySem PySem.Spec PyProof.Rows L2 U
section
variable {P : Program} {w : World} {K : PySem.W.Frag} {mg : Str → Option Value} {base : Heap}
theorem ok_are_letters (T : Top K mg) (Ex : Exs P K mg) : FnOk P w K mg base CX0 1 T.f_are_letters T.d_are_letters ["value"] sp_are := by
  refine T.F_are_letters.ok sc_are_letters (fun vs H Q E h => ?_) (fun cdv A outer s H vs Q E hr h => ?_)
  · obtain ⟨v, rfl, _⟩ := h
    rfl
  · obtain ⟨v, rfl, h⟩ := h
    refine ⟨_, (pss_cons (ps_if (PW.pt (pw_or (pt_not (pt_val (pe_callB call_isi (by rfl) T.n_isinstance (by decide +kernel) (pa_cons (pv 0) (pa_cons (pe_bltn (v := .ty "str") (by rfl) T.n_str (by decide +kernel) rfl) pa_nil))))) (pw_or1 (pt_not (pt_chain op_le op_le (pe_glob (v := .int 2) (by rfl) Ex.g_FEWEST ⟨_, rfl⟩) (pe_callB call_len_str (by rfl) T.n_len (by decide +kernel) (pa_cons (pv 0) pa_nil)) (pe_glob (v := .int 5) (by rfl) Ex.g_MOST ⟨_, rfl⟩)))))) (pss_one (ps_ret pe_bl)) pss_nil)
        (pss_cons (ps_if (pt_not (pt_val (pe_callB (cr_all rfl) (by rfl) T.n_all (by decide +kernel) (pa_cons (pe_lc (own := [("letter", 1)]) (g := gName 1) (tt := tYes) (by rfl) sc_are_letters.nd (pi_str (pv 0)) (blkOk_by (own := [("letter", 1)]) (N := ["value", "letter", "at"]) (sc := defScope s_are_letters) (by decide +kernel)) (fun _ _ _ _ _ => pg_name (i := 1) sc_are_letters.nd rfl (Or.inl rfl)) (fun _ _ _ _ _ => pts_nil) (fun _ _ _ _ _ => (pe_cmpR op_in_sign (pv 1) (pe_glob (v := .str "-./0123456789_abcdefghijklmnopqrstuvwxyz") (by rfl) Ex.g_SIGNS ⟨_, rfl⟩) (by rfl)))) pa_nil)))) (pss_one (ps_ret pe_bl)) pss_nil)
        (pss_one (ps_ret (pe_callB (cr_all rfl) (by rfl) T.n_all (by decide +kernel) (pa_cons (pe_lc (own := [("at", 2)]) (g := gName 2) (tt := tYes) (by rfl) sc_are_letters.nd (pi_range1 (by rfl) T.n_range (pa_cons (pe_op op_sub (pe_callB call_len_str (by rfl) T.n_len (by decide +kernel) (pa_cons (pv 0) pa_nil)) pe_int) pa_nil)) (blkOk_by (own := [("at", 2)]) (N := ["value", "letter", "at"]) (sc := defScope s_are_letters) (by decide +kernel)) (fun _ _ _ _ _ => pg_name (i := 2) sc_are_letters.nd rfl (Or.inl rfl)) (fun _ _ _ _ _ => pts_nil) (fun _ _ _ _ _ => (pe_cmpR op_lt_str (pe_ix ix_str (pv 0) (pv 2) (fun _ _ => rfl)) (pe_ix ix_str (pv 0) (pe_op op_add (pv 2) pe_int) (fun _ _ => rfl)) (nomark _)))) pa_nil)))))), ?_⟩
    rcases h with ⟨l, rfl, hl, q⟩ | ⟨hn, q⟩
    · refine ⟨_, rfl, _, .ty "str", _, _, true, rfl, .ty _, .base (.str _), kit_ty (by decide +kernel), ?_⟩
      refine ⟨_, rfl, ?_⟩
      dsimp only [Bool.not_true]
      refine iteF ?_
      refine ⟨_, rfl, _, rfl, (by rw [S_len, sizeLine_eq]; omega), _, _, rfl, rfl, _, rfl, ?_⟩
      rw [S_len]
      by_cases h1 : 2 ≤ l.length
      · refine if_true_of (decide_eq_true (by omega)) ?_
        refine ⟨_, _, rfl, rfl, _, rfl, ?_⟩
        dsimp only
        by_cases h2 : l.length ≤ 5
        · refine if_false_of (by simp; omega) ?_
          refine ⟨_, rfl, _, rfl, fun D hD => lcM (src_str l) (fun x => .bl (decide (sg x ∈ U.signs))) trivial hD (fun x => rfl) (by simp [chars]; omega) (fun x hx H' s' Q k => ?_) (fun H' s' e => ?_)⟩
          · obtain ⟨c, hc, rfl⟩ := chars_mem hx
            exact ⟨_, rfl, c, _, rfl, rfl, k _ (Same.refl _)⟩
          · rw [chars_map l (fun c => decide (c ∈ U.signs))] at e
            refine ⟨D, _, rfl, SqL.of e, _, rfl, ?_⟩
            rw [all_id]
            dsimp only
            by_cases h3 : (l.all fun c => decide (c ∈ U.signs)) = true
            · refine if_false_of (by rw [h3]; rfl) ?_
              refine ⟨_, rfl, _, rfl, (by rw [S_len, sizeLine_eq]; omega), _, _, rfl, rfl, ?_⟩
              rw [S_len]
              obtain ⟨n, hn⟩ : ∃ n : Nat, l.length = n + 1 := ⟨l.length - 1, by omega⟩
              have hz : ((l.length : Int) - 1) = (n : Int) := by omega
              refine ⟨(n : Int), (by show [V.int ((l.length : Int) - 1)] = [V.int (n : Int)]; rw [hz]), by omega, by omega, fun D2 hD2 => ?_⟩
              refine lcM (src_range 0 n) (ascF l) trivial hD2 (fun x => rfl) (by rw [rngV_len]; omega) (fun x hx H2 s2 Q k => ?_) (fun H2 s2 e2 => ?_)
              · obtain ⟨i, hi⟩ := List.getElem?_of_mem hx
                rw [rngV_get] at hi
                obtain ⟨hi, rfl⟩ := hi
                rw [Int.zero_add] at k ⊢
                have hi1 : i < l.length := by omega
                have hi2 : i + 1 < l.length := by omega
                refine ⟨_, rfl, _, rfl, _, _, l.getD i 0, rfl, rfl, (by rw [S_len, sizeLine_eq]; omega), ?_, ?_⟩
                · rw [S_toList]
                  exact atI_int (by omega) (by rw [Int.toNat_natCast]; exact getD_get hi1)
                refine ⟨_, rfl, _, rfl, _, _, rfl, rfl, _, _, l.getD (i + 1) 0, rfl, rfl, (by rw [S_len, sizeLine_eq]; omega), ?_, ?_⟩
                · rw [S_toList]
                  exact atI_int (by omega) (by rw [show ((i : Int) + 1).toNat = i + 1 by omega]; exact getD_get hi2)
                refine ⟨_, _, rfl, rfl, ?_⟩
                have := lt_one (l.getD i 0) (l.getD (i + 1) 0)
                have k2 := k _ (Same.refl _)
                dsimp only [ascF] at k2
                rw [Int.toNat_natCast, ← this] at k2
                exact k2
              · rw [ascF_map] at e2
                refine ⟨D2, _, rfl, SqL.of e2, ?_⟩
                have : ((List.range n).map fun i => decide (l.getD i 0 < l.getD (i + 1) 0)).all id = good l := by
                  have e : asc l = (List.range n).all fun i => decide (l.getD i 0 < l.getD (i + 1) 0) := by
                    unfold asc
                    rw [hn, Nat.add_sub_cancel]
                  rw [all_id]
                  unfold good within
                  rw [h3, e]
                  simp [h1, h2]
                rw [this]
                exact q _ (s'.trans s2)
            · refine if_true_of (by rw [Bool.eq_false_iff.mpr h3]; rfl) ?_
              have : good l = false := by
                unfold good within
                rw [Bool.eq_false_iff.mpr h3]
                simp
              rw [← this]
              exact q _ s'
        · refine if_true_of (by simp; omega) ?_
          have : good l = false := by simp [good, h2]
          rw [← this]
          exact q _ (Same.refl _)
      · refine if_false_of (decide_eq_false (by omega)) ?_
        refine ⟨_, rfl, ?_⟩
        refine iteT ?_
        have : good l = false := by simp [good, h1]
        rw [← this]
        exact q _ (Same.refl _)
    · obtain ⟨t, ht, kt⟩ := hn.ty (K := K)
      refine ⟨_, rfl, _, .ty "str", t, _, false, rfl, .ty _, ht, kt, ?_⟩
      refine ⟨_, rfl, ?_⟩
      dsimp only [Bool.not_false]
      refine iteT ?_
      refine iteT ?_
      exact q _ (Same.refl _)
theorem ok_is_text (T : Top K mg) (Ex : Exs P K mg) : FnOk P w K mg base CX0 1 T.f_is_text T.d_is_text ["letters", "value"] sp_text := by
  refine T.F_is_text.ok sc_is_text (fun vs H Q E h => ?_) (fun cdv A outer s H vs Q E hr h => ?_)
  · obtain ⟨L, v, rfl, _⟩ := h
    rfl
  · obtain ⟨L, v, rfl, h⟩ := h
    refine ⟨_, (pss_one (ps_ret (pe_and (pe_callB call_isi (by rfl) T.n_isinstance (by decide +kernel) (pa_cons (pv 1) (pa_cons (pe_bltn (v := .ty "str") (by rfl) T.n_str (by decide +kernel) rfl) pa_nil))) (pe_one (pe_callB (cr_all rfl) (by rfl) T.n_all (by decide +kernel) (pa_cons (pe_lc (own := [("letter", 2)]) (g := gName 2) (tt := tYes) (by rfl) sc_is_text.nd (pi_str (pv 1)) (blkOk_by (own := [("letter", 2)]) (N := ["letters", "value", "letter"]) (sc := defScope s_is_text) (by decide +kernel)) (fun _ _ _ _ _ => pg_name (i := 2) sc_is_text.nd rfl (Or.inl rfl)) (fun _ _ _ _ _ => pts_nil) (fun _ _ _ _ _ => (pe_cmpR op_in_sign (pv 2) (pv 0) (by rfl)))) pa_nil)))))), ?_⟩
    rcases h with ⟨l, rfl, hl, q⟩ | ⟨hn, q⟩
    · refine ⟨_, rfl, _, .ty "str", _, _, true, rfl, .ty _, .base (.str _), kit_ty (by decide +kernel), _, rfl, iteT ?_⟩
      refine ⟨_, rfl, _, rfl, fun D hD => lcM (src_str l) (fun x => .bl (decide (sg x ∈ L))) trivial hD (fun x => rfl) (by simp [chars]; omega) (fun x hx H' s' Q k => ?_) (fun H' s' e => ?_)⟩
      · obtain ⟨c, hc, rfl⟩ := chars_mem hx
        refine ⟨_, rfl, _, rfl, c, _, rfl, rfl, ?_⟩
        rw [S_toList]
        exact k _ (Same.refl _)
      · rw [chars_map l (fun c => decide (c ∈ L))] at e
        refine ⟨D, _, rfl, SqL.of e, ?_⟩
        rw [all_id]
        exact q _ s'
    · obtain ⟨t, ht, kt⟩ := hn.ty (K := K)
      refine ⟨_, rfl, _, .ty "str", t, _, false, rfl, .ty _, ht, kt, _, rfl, iteF ?_⟩
      exact q _ (Same.refl _)
theorem ok_check_letters (T : Top K mg) (Ex : Exs P K mg) : FnOk P w K mg base (L2.CX P w) 2 T.f_check_letters T.d_check_letters ["letters"] (sp_check Ex.C_InvalidLetters) := by
  have G_are_letters : FnOk P w K mg base CX0 1 T.f_are_letters T.d_are_letters ["value"] sp_are := ok_are_letters T Ex
  refine T.F_check_letters.okX sc_check_letters (fun vs H Q E h => ?_) (fun cdv A outer s H vs Q E hr h => ?_)
  · obtain ⟨v, rfl, _⟩ := h
    rfl
  · obtain ⟨v, rfl, h⟩ := h
    refine ⟨_, (pss_cons (ps_if (pt_not (pt_val (pe_call G_are_letters (hr.mono (by decide)) (by rfl) T.g_are_letters T.F_are_letters.kp T.b_are_letters .nil pass0 (pa_cons (pv 0) pa_nil)))) (pss_one (ps_raise rfl (takes_of rfl rfl rfl rfl) (pmk_ret rfl (pe_exc0 F.excBase_ValueError Ex.xi_InvalidLetters Ex.g_InvalidLetters Ex.kc_InvalidLetters (by rfl))))) pss_nil)
        (pss_one (ps_ret pe_bl))), ?_⟩
    rcases h with ⟨l, rfl, hl, qt, qf⟩ | ⟨hn, q⟩
    · refine ⟨_, rfl, _, rfl, .inl ⟨l, rfl, hl, fun H1 s1 => ⟨_, rfl, ?_⟩⟩⟩
      dsimp only
      cases hg : good l with
      | true => exact iteF (qt hg _ s1)
      | false =>
        refine iteT fun a ha => ⟨a, _, rfl, upd_same, fr0_none (s1.free ha), raises_own Ex.bB_InvalidLetters Ex.tB_InvalidLetters, ?_⟩
        rw [delH_new ha]
        exact qf hg _ s1
    · refine ⟨_, rfl, _, rfl, .inr ⟨hn, fun H1 s1 => ⟨_, rfl, ?_⟩⟩⟩
      refine iteT fun a ha => ⟨a, _, rfl, upd_same, fr0_none (s1.free ha), raises_own Ex.bB_InvalidLetters Ex.tB_InvalidLetters, ?_⟩
      rw [delH_new ha]
      exact q _ s1
theorem ok_need_text (T : Top K mg) (Ex : Exs P K mg) : FnOk P w K mg base (L2.CX P w) 2 T.f_need_text T.d_need_text ["letters", "value"] (sp_need Ex.C_NoText) := by
  have G_is_text : FnOk P w K mg base CX0 1 T.f_is_text T.d_is_text ["letters", "value"] sp_text := ok_is_text T Ex
  refine T.F_need_text.okX sc_need_text (fun vs H Q E h => ?_) (fun cdv A outer s H vs Q E hr h => ?_)
  · obtain ⟨L, v, rfl, _⟩ := h
    rfl
  · obtain ⟨L, v, rfl, h⟩ := h
    refine ⟨_, (pss_one (ps_if (pt_not (pt_val (pe_call G_is_text (hr.mono (by decide)) (by rfl) T.g_is_text T.F_is_text.kp T.b_is_text .nil pass0 (pa_cons (pv 0) (pa_cons (pv 1) pa_nil))))) (pss_one (ps_raise rfl (takes_of rfl rfl rfl rfl) (pmk_exc rfl (pe_exc (k := 0) base_VE Ex.tc_NoText Ex.tf_NoText Ex.sup (hr.mono (by decide)) Ex.g_NoText (by rfl) (pv 1))))) pss_nil)), ?_⟩
    rcases h with ⟨l, rfl, hl, qt, qf⟩ | ⟨hn, q⟩
    · refine ⟨_, rfl, _, rfl, L, _, rfl, .inl ⟨l, rfl, hl, fun H1 s1 => ⟨_, rfl, ?_⟩⟩⟩
      dsimp only
      cases hg : within L l with
      | true => exact iteF (qt hg _ s1)
      | false =>
        refine iteT ⟨_, rfl, fun a dx ha hd ne => ⟨a, _, dx, _, rfl, upd_same, by rw [upd_ne ne.symm, upd_same], ne, fr0_none (s1.free ha), raises_own Ex.bB_NoText Ex.tB_NoText, throw_it (qf hg) s1 ha hd ne⟩⟩
    · refine ⟨_, rfl, _, rfl, L, _, rfl, .inr ⟨hn, fun H1 s1 => ⟨_, rfl, ?_⟩⟩⟩
      exact iteT ⟨_, rfl, fun a dx ha hd ne => ⟨a, _, dx, _, rfl, upd_same, by rw [upd_ne ne.symm, upd_same], ne, fr0_none (s1.free ha), raises_own Ex.bB_NoText Ex.tB_NoText, throw_it q s1 ha hd ne⟩⟩
theorem ok_is_integer (T : Top K mg) (Ex : Exs P K mg) : FnOk P w K mg base CX0 1 T.f_is_integer T.d_is_integer ["value"] sp_isint := by
  refine T.F_is_integer.ok sc_is_integer (fun vs H Q E h => ?_) (fun cdv A outer s H vs Q E hr h => ?_)
  · obtain ⟨v, rfl, _⟩ := h
    rfl
  · obtain ⟨v, rfl, h⟩ := h
    refine ⟨_, (pss_one (ps_ret (pe_and (pe_callB call_isi (by rfl) T.n_isinstance (by decide +kernel) (pa_cons (pv 0) (pa_cons (pe_bltn (v := .ty "int") (by rfl) T.n_int (by decide +kernel) rfl) pa_nil))) (pe_one (pe_not (pe_callB call_isi (by rfl) T.n_isinstance (by decide +kernel) (pa_cons (pv 0) (pa_cons (pe_bltn (v := .ty "bool") (by rfl) T.n_bool (by decide +kernel) rfl) pa_nil)))))))), ?_⟩
    rcases h with ⟨i, rfl, q⟩ | ⟨hn, q⟩
    · exact ⟨_, rfl, _, .ty "int", _, _, true, rfl, .ty _, .base (.int _), kit_ty (by decide +kernel), _, rfl, iteT ⟨_, rfl, _, .ty "bool", _, _, false, rfl, .ty _, .base (.int _), kit_ty (by decide +kernel), _, rfl, q⟩⟩
    · by_cases hb : ∃ b, v = .bl b
      · obtain ⟨b, rfl⟩ := hb
        exact ⟨_, rfl, _, .ty "int", _, _, true, rfl, .ty _, .base (.bl _), kit_ty (by decide +kernel), _, rfl, iteT ⟨_, rfl, _, .ty "bool", _, _, true, rfl, .ty _, .base (.bl _), kit_ty (by decide +kernel), _, rfl, q⟩⟩
      · obtain ⟨t, ht, kt⟩ := hn.ty (K := K) (fun b e => hb ⟨b, e⟩)
        exact ⟨_, rfl, _, .ty "int", t, _, false, rfl, .ty _, ht, kt, _, rfl, iteF q⟩
theorem ok_is_value (T : Top K mg) (Ex : Exs P K mg) : FnOk P w K mg base CX0 2 T.f_is_value T.d_is_value ["value"] sp_isval := by
  have G_is_integer : FnOk P w K mg base CX0 1 T.f_is_integer T.d_is_integer ["value"] sp_isint := ok_is_integer T Ex
  refine T.F_is_value.ok sc_is_value (fun vs H Q E h => ?_) (fun cdv A outer s H vs Q E hr h => ?_)
  · obtain ⟨v, rfl, _⟩ := h
    rfl
  · obtain ⟨v, rfl, h⟩ := h
    refine ⟨_, (pss_one (ps_ret (pe_and (pe_call G_is_integer (hr.mono (by decide)) (by rfl) T.g_is_integer T.F_is_integer.kp T.b_is_integer .nil pass0 (pa_cons (pv 0) pa_nil)) (pe_one (pe_cmpR op_ge (pv 0) pe_int (nomark _)))))), ?_⟩
    rcases h with ⟨i, rfl, q⟩ | ⟨hn, q⟩
    · exact ⟨_, rfl, _, rfl, .inl ⟨i, rfl, _, rfl, iteT ⟨_, rfl, _, _, rfl, rfl, q⟩⟩⟩
    · exact ⟨_, rfl, _, rfl, .inr ⟨hn, _, rfl, iteF q⟩⟩
theorem ok_need_value (T : Top K mg) (Ex : Exs P K mg) : FnOk P w K mg base (L2.CX P w) 3 T.f_need_value T.d_need_value ["value"] (sp_needV Ex.C_NoValue) := by
  have G_is_value : FnOk P w K mg base CX0 2 T.f_is_value T.d_is_value ["value"] sp_isval := ok_is_value T Ex
  refine T.F_need_value.okX sc_need_value (fun vs H Q E h => ?_) (fun cdv A outer s H vs Q E hr h => ?_)
  · obtain ⟨v, rfl, _⟩ := h
    rfl
  · obtain ⟨v, rfl, h⟩ := h
    refine ⟨_, (pss_one (ps_if (pt_not (pt_val (pe_call G_is_value (hr.mono (by decide)) (by rfl) T.g_is_value T.F_is_value.kp T.b_is_value .nil pass0 (pa_cons (pv 0) pa_nil)))) (pss_one (ps_raise rfl (takes_of rfl rfl rfl rfl) (pmk_exc rfl (pe_exc (k := 0) base_VE Ex.tc_NoValue Ex.tf_NoValue Ex.sup (hr.mono (by decide)) Ex.g_NoValue (by rfl) (pv 0))))) pss_nil)), ?_⟩
    rcases h with ⟨i, rfl, qt, qf⟩ | ⟨hn, q⟩
    · refine ⟨_, rfl, _, rfl, .inl ⟨i, rfl, _, rfl, ?_⟩⟩
      dsimp only
      by_cases h0 : 0 ≤ i
      · rw [decide_eq_true h0]
        exact iteF (qt h0)
      · rw [decide_eq_false h0]
        exact iteT ⟨_, rfl, fun a dx ha hd ne => ⟨a, _, dx, _, rfl, upd_same, by rw [upd_ne ne.symm, upd_same], ne, fr0_none ha, raises_own Ex.bB_NoValue Ex.tB_NoValue, throw_it (qf h0) (Same.refl _) ha hd ne⟩⟩
    · refine ⟨_, rfl, _, rfl, .inr ⟨hn, _, rfl, ?_⟩⟩
      exact iteT ⟨_, rfl, fun a dx ha hd ne => ⟨a, _, dx, _, rfl, upd_same, by rw [upd_ne ne.symm, upd_same], ne, fr0_none ha, raises_own Ex.bB_NoValue Ex.tB_NoValue, throw_it q (Same.refl _) ha hd ne⟩⟩
theorem ok_is_between (T : Top K mg) (Ex : Exs P K mg) : FnOk P w K mg base CX0 1 T.f_is_between T.d_is_between ["text", "low", "high", "after"] sp_between := by
  refine T.F_is_between.ok sc_is_between (fun vs H Q E h => ?_) (fun cdv A outer s H vs Q E hr h => ?_)
  · obtain ⟨x, lo, hi, af, rfl, _⟩ := h
    rfl
  · obtain ⟨x, lo, hi, af, rfl, q⟩ := h
    refine ⟨_, (pss_cons (ps_if (PW.pt (pw_or (pt_cmpR op_lt_str (pv 0) (pv 1) (nomark _)) (pw_or1 (PW.pt (pw_and (pt_cmpR op_notN (pv 2) pe_non (nomark _)) (pw_and1 (pt_cmpR op_ge_str (pv 0) (pv 2) (nomark _)))))))) (pss_one (ps_ret pe_bl)) pss_nil)
        (pss_one (ps_ret (pe_or (pe_cmpR op_isN (pv 3) pe_non (nomark _)) (pe_one (pe_cmpR op_gt_str (pv 0) (pv 3) (nomark _))))))), ?_⟩
    refine ⟨_, rfl, _, rfl, _, _, rfl, rfl, _, rfl, ?_⟩
    rw [S_toList, S_toList]
    have fin : (!decide (x < lo) && (hi.all fun h => decide (x < h))) = true → tRet (tOrV (tOp (fun x y H Q => y = V.non ∧ Q (V.bl (decide (x = V.non))) H) (tVar 3) (tC V.non)) (tOp (fun x y H Q => ∃ i j, x = V.str i ∧ y = V.str j ∧ Q (V.bl (decide (j.cps.toList < i.cps.toList))) H) (tVar 0) (tVar 3))) { nx := fun x H' => Q V.non H', rt := Q } [some (V.str (S x)), some (V.str (S lo)), some (optV hi), some (optV af)] H := by
      intro hh
      have e : btw lo hi af x = af.all fun a => decide (a < x) := by
        unfold btw
        rw [hh, Bool.true_and]
      rw [e] at q
      cases af with
      | none => exact ⟨_, rfl, rfl, _, rfl, iteT q⟩
      | some a =>
        refine ⟨_, rfl, rfl, _, rfl, iteF ⟨_, rfl, _, rfl, _, _, rfl, rfl, ?_⟩⟩
        rw [S_toList, S_toList]
        exact q
    by_cases h1 : x < lo
    · rw [decide_eq_true h1]
      refine iteT (iteT ?_)
      have : btw lo hi af x = false := by simp [btw, h1]
      rw [this] at q
      exact q
    · rw [decide_eq_false h1]
      refine iteF ?_
      cases hi with
      | none =>
        refine ⟨_, rfl, rfl, _, rfl, ?_⟩
        exact iteF (iteF (fin (by simp [h1])))
      | some hh =>
        refine ⟨_, rfl, rfl, _, rfl, ?_⟩
        refine iteT ⟨_, rfl, _, rfl, _, _, rfl, rfl, _, rfl, ?_⟩
        rw [S_toList, S_toList]
        by_cases h2 : x < hh
        · rw [decide_eq_true h2]
          exact iteF (fin (by simp [h1, h2]))
        · rw [decide_eq_false h2]
          refine iteT ?_
          have : btw lo (some hh) af x = false := by simp [btw, h2]
          rw [this] at q
          exact q
end
end K47
/-! U16: stores in the heap; promises of their methods -/
namespace U
open PySem PySem.Spec PyProof.Rows L2
/-- a raising callee in a raising def -/
theorem pass_on {X : Cx} {E : XK} (tk : Takes X fun cls d _ H => E cls d H) : Passes (L2.CX X.prog X.w) X E := passes_call tk fun _ _ _ _ h => h
section
variable {X : Cx} {tg e : Expr} {wi wj : TI}
theorem PI.or (a : PI X tg e wi) (b : PI X tg e wj) : PI X tg e (fun σ H R => wi σ H R ∨ wj σ H R) :=
  ⟨fun pins s σ H R I h => h.elim (fun h => a.run pins s σ H R I h) fun h => b.run pins s σ H R I h⟩
end
theorem src_keys (d : Addr) (o : Obj) (t : Tab) : Src (Itk d o (tabV t)) ((keysT t).map fun k => V.str (S k)) (fun H => H d = some (.frz o (.dK (tabV t)))) := by
  have hl : ((keysT t).map fun k => V.str (S k)).length = (tabV t).length := by simp [keysT, tabV]
  refine ⟨⟨fun i H hi q => ⟨q, by omega⟩, fun H q => ⟨q, by omega⟩, fun i H x H' hi q y => ?_⟩, fun H H' s h => s _ _ h⟩
  obtain ⟨e, k, v, hk, rfl⟩ := y
  refine ⟨e, ?_⟩
  unfold tabV at hk
  rw [List.getElem?_map] at hk
  obtain ⟨p, hp, he⟩ := Option.map_eq_some_iff.mp hk
  unfold keysT
  rw [List.getElem?_map, List.getElem?_map, hp]
  have : k = Sum.inr (S p.1) := (congrArg Prod.fst he).symm
  rw [this]
  rfl
/-- all but one thing is kept -/
def Kb (a : Addr) (H H' : Hp) : Prop := ∀ b o, b ≠ a → H b = some o → H' b = some o
theorem Kb.refl (a : Addr) (H : Hp) : Kb a H H := fun _ _ _ h => h
theorem Kb.trans {a : Addr} {H H1 H2 : Hp} (x : Kb a H H1) (y : Kb a H1 H2) : Kb a H H2 := fun b o n h => y b o n (x b o n h)
theorem Kb.of {a : Addr} {H H' : Hp} (s : Same H H') : Kb a H H' := fun b o _ h => s b o h
theorem Kb.upd {a : Addr} {H H1 : Hp} {o : HO} (x : Kb a H H1) : Kb a H (upd H1 a o) := fun b u n h => by rw [upd_ne n]; exact x b u n h
theorem Kb.free {a p : Addr} {H H' : Hp} (x : Kb a H H') (hp : H' p = none) (n : p ≠ a) : H p = none := by
  cases q : H p with
  | none => rfl
  | some o => rw [x p o n q] at hp; cases hp
/-- the store at a, its table at t -/
def StoreAt (H : Hp) (C a t : Addr) (L : List Nat) (kv : Tab) : Prop := (∃ dx, H a = some (.ins C dx [("letters", .str (S L)), ("table", .ref t)])) ∧ H t = some (.dK (tabV kv))
theorem StoreAt.same {H H' : Hp} {C a t : Addr} {L : List Nat} {kv : Tab} (x : StoreAt H C a t L kv) (s : Same H H') : StoreAt H' C a t L kv := by
  obtain ⟨⟨dx, h1⟩, h2⟩ := x
  exact ⟨⟨dx, s _ _ h1⟩, s _ _ h2⟩
theorem StoreAt.ne {H : Hp} {C a t : Addr} {L : List Nat} {kv : Tab} (x : StoreAt H C a t L kv) : a ≠ t := by
  obtain ⟨⟨dx, h1⟩, h2⟩ := x
  exact ne_of h1 h2 (by intro z; cases z)
theorem StoreAt.put {H H' : Hp} {C a t : Addr} {L : List Nat} {kv kv' : Tab} (x : StoreAt H C a t L kv) (s : Kb t H H') (e : H' t = some (.dK (tabV kv'))) : StoreAt H' C a t L kv' := by
  have n := x.ne
  obtain ⟨⟨dx, h1⟩, h2⟩ := x
  exact ⟨⟨dx, s _ _ n h1⟩, e⟩
def BadKey (H : Hp) (L : List Nat) (v : V) : Prop := (∃ l, v = .str (S l) ∧ l.length ≤ 1000 ∧ within L l = false) ∨ NotS H v
def BadVal (H : Hp) (v : V) : Prop := (∃ i, v = .int i ∧ i < 0) ∨ NotI H v
theorem BadKey.same {H H' : Hp} {L : List Nat} {v : V} (h : BadKey H L v) (s : Same H H') : BadKey H' L v := h.imp id fun h => h.same s
theorem BadVal.same {H H' : Hp} {v : V} (h : BadVal H v) (s : Same H H') : BadVal H' v := h.imp id fun h => h.same s
def spPut (C CT CV : Addr) : Sp := fun vs H Q E => ∃ (a t : Addr) (L : List Nat) (kv : Tab) (key val : V), vs = [.ref a, key, val] ∧ StoreAt H C a t L kv ∧ kv.length < 10000 ∧
  ((∃ k v, key = .str (S k) ∧ val = .int v ∧ k.length ≤ 1000 ∧ within L k = true ∧ 0 ≤ v ∧ ∀ H', Kb t H H' → H' t = some (.dK (tabV (putT kv k v))) → Q .non H') ∨
   (BadKey H L key ∧ Thrown E CT "value" key H) ∨ (∃ k, key = .str (S k) ∧ k.length ≤ 1000 ∧ within L k = true ∧ BadVal H val ∧ Thrown E CV "value" val H))
def spGet (C CK : Addr) : Sp := fun vs H Q E => ∃ (a t : Addr) (L : List Nat) (kv : Tab) (v : V), vs = [.ref a, v] ∧ StoreAt H C a t L kv ∧
  ((∃ k z, v = .str (S k) ∧ getT kv k = some z ∧ Q (.int z) H) ∨ (((∃ k, v = .str (S k) ∧ getT kv k = none) ∨ NotS H v) ∧ Thrown E CK "key" v H))
def spIn (C : Addr) : Sp := fun vs H Q _ => ∃ (a t : Addr) (L : List Nat) (kv : Tab) (v : V), vs = [.ref a, v] ∧ StoreAt H C a t L kv ∧
  ((∃ k, v = .str (S k) ∧ Q (.bl (getT kv k).isSome) H) ∨ (NotS H v ∧ Q (.bl false) H))
def spLen (C : Addr) : Sp := fun vs H Q _ => ∃ (a t : Addr) (L : List Nat) (kv : Tab), vs = [.ref a] ∧ StoreAt H C a t L kv ∧ Q (.int kv.length) H
def tabEq (u v : Tab) : Bool := (tabV u).length == (tabV v).length && eqD (tabV u) (tabV v)
def spEq (C : Addr) : Sp := fun vs H Q _ => ∃ (a t : Addr) (L : List Nat) (kv : Tab) (v : V), vs = [.ref a, v] ∧ StoreAt H C a t L kv ∧
  ((∃ b u L' kv', v = .ref b ∧ StoreAt H C b u L' kv' ∧ Q (.bl (decide (L = L') && tabEq kv kv')) H) ∨ (∃ b, v = .ref b ∧ ((∃ xs, H b = some (.lst xs)) ∨ ∃ xs, H b = some (.dK xs)) ∧ Q (.bl false) H))
theorem flat_tab (kv : Tab) : ∀ p ∈ tabV kv, flatV p.2 = true := fun p hp => by
  obtain ⟨q, _, rfl⟩ := List.mem_map.mp hp
  rfl
def spSpots (C : Addr) : Sp := fun vs H Q _ => ∃ (a t : Addr) (L : List Nat) (kv : Tab) (lo : List Nat) (hi af : Option (List Nat)), vs = [.ref a, .str (S lo), optV hi, optV af] ∧ StoreAt H C a t L kv ∧ kv.length ≤ 10000 ∧
  ∀ p H', Same H H' → H p = none → H' p = some (.lst ((spotsT kv lo hi af).map fun k => V.str (S k))) → Q (.ref p) H'
/-- pairs as tuples -/
def TupsAt (H : Hp) (ts : List Addr) (l : Tab) : Prop := Paired (fun t q => H t = some (.tup [.str (S q.1), .int q.2])) ts l
def PairsAt (H : Hp) (p : Addr) (l : Tab) : Prop := ∃ ts, H p = some (.lst (ts.map V.ref)) ∧ TupsAt H ts l
theorem Paired.imp {α β : Type} {F G : α → β → Prop} (f : ∀ a b, F a b → G a b) : ∀ {xs : List α} {ys : List β}, Paired F xs ys → Paired G xs ys
  | _, _, .nil => .nil
  | _, _, .cons h t => .cons (f _ _ h) (Paired.imp f t)
theorem TupsAt.same {H H' : Hp} {ts : List Addr} {l : Tab} (x : TupsAt H ts l) (s : Same H H') : TupsAt H' ts l := Paired.imp (fun _ _ h => s _ _ h) x
theorem PairsAt.same {H H' : Hp} {p : Addr} {l : Tab} (x : PairsAt H p l) (s : Same H H') : PairsAt H' p l := by
  obtain ⟨ts, h1, h2⟩ := x
  exact ⟨ts, s _ _ h1, h2.same s⟩
def spPairs (C : Addr) : Sp := fun vs H Q _ => ∃ (a t : Addr) (L : List Nat) (kv : Tab) (lo : List Nat) (hi af : Option (List Nat)), vs = [.ref a, .str (S lo), optV hi, optV af] ∧ StoreAt H C a t L kv ∧ kv.length ≤ 10000 ∧
  ∀ p H', Same H H' → H p = none → PairsAt H' p (pairsT kv (spotsT kv lo hi af)) → Q (.ref p) H'
def spPage (C : Addr) : Sp := fun vs H Q _ => ∃ (a t : Addr) (L : List Nat) (kv : Tab) (n : Nat) (lo : List Nat) (hi af : Option (List Nat)), vs = [.ref a, .int n, .str (S lo), optV hi, optV af] ∧ StoreAt H C a t L kv ∧ kv.length ≤ 10000 ∧
  ∀ p H', Same H H' → H p = none → PairsAt H' p ((pairsT kv (spotsT kv lo hi af)).take n) → Q (.ref p) H'
def dropAll (kv : Tab) (ks : List (List Nat)) : Tab := ks.foldl dropT kv
def putAll (kv : Tab) (ks : List (List Nat)) (v : Int) : Tab := ks.foldl (fun t k => putT t k v) kv
def mergeT (kv : Tab) (ps : Tab) : Tab := ps.foldl (fun t p => putT t p.1 p.2) kv
def spTake (C : Addr) : Sp := fun vs H Q _ => ∃ (a t : Addr) (L : List Nat) (kv : Tab) (lo : List Nat) (hi af : Option (List Nat)), vs = [.ref a, .str (S lo), optV hi, optV af] ∧ StoreAt H C a t L kv ∧ (keysT kv).Nodup ∧ kv.length ≤ 10000 ∧
  ∀ H', Kb t H H' → H' t = some (.dK (tabV (dropAll kv (spotsT kv lo hi af)))) → Q (.int (spotsT kv lo hi af).length) H'
def spFill (C CV : Addr) : Sp := fun vs H Q E => ∃ (a t : Addr) (L : List Nat) (kv : Tab) (v : V) (lo : List Nat) (hi af : Option (List Nat)), vs = [.ref a, v, .str (S lo), optV hi, optV af] ∧ StoreAt H C a t L kv ∧ kv.length < 10000 ∧
  ((∃ z, v = .int z ∧ 0 ≤ z ∧ ∀ H', Kb t H H' → H' t = some (.dK (tabV (putAll kv (spotsT kv lo hi af) z))) → Q (.int (spotsT kv lo hi af).length) H') ∨ (BadVal H v ∧ Thrown E CV "value" v H))
/-- a sequence of pairs: some right ones, and what follows -/
def SeqOf (K : PySem.W.Frag) (H : Hp) (p : Addr) (xs : List V) : Prop := SqL K H p xs ∨ SqT K H p xs
theorem SeqOf.same {K : PySem.W.Frag} {H H' : Hp} {p : Addr} {xs : List V} (h : SeqOf K H p xs) (s : Same H H') : SeqOf K H' p xs := h.imp (fun h => s.seq h) fun h => Same.tup s h
/-- a sequence while all but one thing is kept -/
def SeqIn (K : PySem.W.Frag) (a : Addr) (H : Hp) (p : Addr) (xs : List V) : Prop := (∀ H', Kb a H H' → SqL K H' p xs) ∨ (∀ H', Kb a H H' → SqT K H' p xs)
def TupsIn (K : PySem.W.Frag) (H : Hp) (ts : List Addr) (l : Tab) : Prop := Paired (fun t q => SqT K H t [.str (S q.1), .int q.2]) ts l
theorem TupsAt.tin {K : PySem.W.Frag} {H : Hp} {ts : List Addr} {l : Tab} (x : TupsAt H ts l) : TupsIn K H ts l := Paired.imp (fun _ _ h => .inl (.inl h)) x
def ThrownB (a : Addr) (E : XK) (C : Addr) (fn : Str) (v : V) (H : Hp) : Prop := ∀ H' dx, Kb a H H' → H dx = none → H' dx = some (.xd [(fn, v)]) → E (.ref C) (some dx) H'
def Wrong (K : PySem.W.Frag) (a : Addr) (E : XK) (CT CV : Addr) (L : List Nat) (H : Hp) (b : V) : Prop := ∃ q key val, b = .ref q ∧ q ≠ a ∧ SqT K H q [key, val] ∧ ((BadKey H L key ∧ ThrownB a E CT "value" key H) ∨ (∃ k, key = .str (S k) ∧ k.length ≤ 1000 ∧ within L k = true ∧ BadVal H val ∧ ThrownB a E CV "value" val H))
def spInit (K : PySem.W.Frag) (C CL CT CV : Addr) : Sp := fun vs H Q E => ∃ (a dx : Addr) (v : V) (p : Addr), vs = [.ref a, v, .ref p] ∧ H a = some (.ins C dx []) ∧
  ((((∃ l, v = .str (S l) ∧ l.length ≤ 1000 ∧ good l = false) ∨ NotS H v) ∧ ∀ H', Same H H' → E (.ref CL) none H') ∨
   ∃ (L : List Nat) (ts : List Addr) (l : Tab) (post : List V), v = .str (S L) ∧ L.length ≤ 1000 ∧ good L = true ∧ SeqIn K a H p (ts.map V.ref ++ post) ∧ TupsIn K H ts l ∧ (∀ t ∈ ts, t ≠ a) ∧ ts.length < 10000 ∧ (∀ q ∈ l, q.1.length ≤ 1000 ∧ within L q.1 = true ∧ 0 ≤ q.2) ∧
     ((post = [] ∧ ∀ t H', Kb a H H' → H t = none → StoreAt H' C a t L (mergeT [] l) → Q .non H') ∨ ∃ b more, post = b :: more ∧ Wrong K a E CT CV L H b))
def spCopied (C : Addr) : Sp := fun vs H Q _ => ∃ (a t : Addr) (L : List Nat) (kv : Tab), vs = [.ref a] ∧ StoreAt H C a t L kv ∧ good L = true ∧ L.length ≤ 1000 ∧ kv.length < 10000 ∧ (keysT kv).Nodup ∧ (∀ q ∈ kv, q.1.length ≤ 1000 ∧ within L q.1 = true ∧ 0 ≤ q.2) ∧
  ∀ b u H', Same H H' → H b = none → H u = none → StoreAt H' C b u L (mergeT [] (pairsT kv (sortT (keysT kv)))) → Q (.ref b) H'
end U
namespace K47
open PySem PySem.Spec PyProof.Rows L2 U
section
variable {P : Program} {w : World} {K : PySem.W.Frag} {mg : Str → Option Value} {base : Heap}
theorem ok_Sput (T : Top K mg) (Ex : Exs P K mg) (So : Sto K mg) : FnOk P w K mg base (L2.CX P w) 4 So.f_put So.d_put ["self", "key", "value"] (spPut So.C Ex.C_NoText Ex.C_NoValue) := by
  have G_need_text : FnOk P w K mg base (L2.CX P w) 2 T.f_need_text T.d_need_text ["letters", "value"] (sp_need Ex.C_NoText) := ok_need_text T Ex
  have G_need_value : FnOk P w K mg base (L2.CX P w) 3 T.f_need_value T.d_need_value ["value"] (sp_needV Ex.C_NoValue) := ok_need_value T Ex
  refine So.F_put.okX sc_Sput (fun vs H Q E h => ?_) (fun cdv A outer s H vs Q E hr h => ?_)
  · obtain ⟨a, t, L, kv, key, val, rfl, _⟩ := h
    rfl
  · obtain ⟨a, t, L, kv, key, val, rfl, hS, hl, h⟩ := h
    refine ⟨_, (pss_cons (ps_expr (pe_call G_need_text (hr.mono (by decide)) (by rfl) T.g_need_text T.F_need_text.kp T.b_need_text .nil (pass_on (takes_of rfl rfl rfl rfl)) (pa_cons (pe_fld (pv 0) rfl) (pa_cons (pv 1) pa_nil))))
        (pss_cons (ps_expr (pe_call G_need_value (hr.mono (by decide)) (by rfl) T.g_need_value T.F_need_value.kp T.b_need_value .nil (pass_on (takes_of rfl rfl rfl rfl)) (pa_cons (pv 2) pa_nil)))
        (pss_one (ps_dput (by exact hu_of hr) (pe_fld (pv 0) rfl) (pv 1) (pv 2) rfl)))), ?_⟩
    obtain ⟨⟨dx, h1⟩, h2⟩ := id hS
    refine ⟨_, rfl, a, So.C, dx, _, _, rfl, h1, So.cl, So.nL, rfl, _, rfl, L, key, rfl, ?_⟩
    rcases h with ⟨k, v, rfl, rfl, hk, hw, hv, q⟩ | ⟨hb, th⟩ | ⟨k, rfl, hk, hw, hb, th⟩
    · refine .inl ⟨k, rfl, hk, fun _ H1 s1 => ?_, fun z => absurd hw (by rw [z]; decide)⟩
      refine ⟨_, rfl, _, rfl, .inl ⟨v, rfl, fun _ => ?_, fun z => absurd hv z⟩⟩
      have hS1 := hS.same s1
      refine ⟨_, rfl, _, rfl, a, So.C, dx, _, _, rfl, s1 _ _ h1, So.cl, So.nT, rfl, _, rfl, t, _, rfl, DPut.k (k := Sum.inr (S k)) (s1 _ _ h2) ?_, ?_⟩
      · rw [tabV_len, sizeLine_eq]; omega
      · rw [put_tab]
        exact q _ (Kb.of s1).upd upd_same
    · rcases hb with ⟨l, rfl, hl, hw⟩ | hn
      · exact .inl ⟨l, rfl, hl, fun z => absurd z (by rw [hw]; decide), fun _ => th⟩
      · exact .inr ⟨hn, th⟩
    · refine .inl ⟨k, rfl, hk, fun _ H1 s1 => ?_, fun z => absurd hw (by rw [z]; decide)⟩
      refine ⟨_, rfl, _, rfl, ?_⟩
      rcases hb with ⟨i, rfl, hi⟩ | hn
      · exact .inl ⟨i, rfl, fun z => absurd z (by omega), fun _ => th.same s1⟩
      · exact .inr ⟨hn.same s1, th.same s1⟩
theorem ok_Sset (T : Top K mg) (Ex : Exs P K mg) (So : Sto K mg) : FnOk P w K mg base (L2.CX P w) 5 So.f_set So.d_set ["self", "at", "worth"] (spPut So.C Ex.C_NoText Ex.C_NoValue) := by
  have So_put : FnOk P w K mg base (L2.CX P w) 4 So.f_put So.d_put ["self", "key", "value"] (spPut So.C Ex.C_NoText Ex.C_NoValue) := ok_Sput T Ex So
  refine So.F_set.okX sc_Sset (fun vs H Q E h => ?_) (fun cdv A outer s H vs Q E hr h => ?_)
  · obtain ⟨a, t, L, kv, key, val, rfl, _⟩ := h
    rfl
  · obtain ⟨a, t, L, kv, key, val, rfl, hS, hl, h⟩ := h
    refine ⟨_, (pss_one (ps_expr (pe_meth (pv 0) So.cl So.m_put So_put (hr.mono (by decide)) So.b_put .nil (pass_on (takes_of rfl rfl rfl rfl)) (pa_cons (pv 1) (pa_cons (pv 2) pa_nil))))), ?_⟩
    obtain ⟨⟨dx, h1⟩, h2⟩ := id hS
    refine ⟨_, rfl, a, dx, _, rfl, h1, rfl, _, rfl, _, rfl, a, t, L, kv, key, val, rfl, hS, hl, ?_⟩
    exact h
theorem ok_Sget (T : Top K mg) (Ex : Exs P K mg) (So : Sto K mg) : FnOk P w K mg base (L2.CX P w) 2 So.f_get So.d_get ["self", "at"] (spGet So.C Ex.C_NoKey) := by
  refine So.F_get.okX sc_Sget (fun vs H Q E h => ?_) (fun cdv A outer s H vs Q E hr h => ?_)
  · obtain ⟨a, t, L, kv, v, rfl, _⟩ := h
    rfl
  · obtain ⟨a, t, L, kv, v, rfl, hS, h⟩ := h
    refine ⟨_, (pss_cons (ps_if (PW.pt (pw_or (pt_not (pt_val (pe_callB call_isi (by rfl) T.n_isinstance (by decide +kernel) (pa_cons (pv 1) (pa_cons (pe_bltn (v := .ty "str") (by rfl) T.n_str (by decide +kernel) rfl) pa_nil))))) (pw_or1 (pt_cmp (pc_dnotin (by exact hu_of hr) (pv 1) (pe_fld (pv 0) rfl)))))) (pss_one (ps_raise rfl (takes_of rfl rfl rfl rfl) (pmk_exc rfl (pe_exc (k := 0) base_KE Ex.tc_NoKey Ex.tf_NoKey Ex.sup (hr.mono (by decide)) Ex.g_NoKey (by rfl) (pv 1))))) pss_nil)
        (pss_one (ps_ret (pe_dget (by exact hu_of hr) (pe_fld (pv 0) rfl) (pv 1) (fun _ _ => rfl))))), ?_⟩
    obtain ⟨⟨dx, h1⟩, h2⟩ := id hS
    rcases h with ⟨k, z, rfl, hg, q⟩ | ⟨⟨k, rfl, hg⟩ | hn, th⟩
    · refine ⟨_, rfl, _, .ty "str", _, _, true, rfl, .ty _, .base (.str _), kit_ty (by decide +kernel), _, rfl, iteF ?_⟩
      refine ⟨_, rfl, _, rfl, a, So.C, dx, _, _, rfl, h1, So.cl, So.nT, rfl, t, _, rfl, DGet.k (k := Sum.inr (S k)) h2, _, rfl, ?_⟩
      rw [val_tab, hg]
      refine iteF ?_
      refine ⟨_, rfl, a, So.C, dx, _, _, rfl, h1, So.cl, So.nT, rfl, _, rfl, t, _, rfl, ?_, q⟩
      have := DGet.k (k := Sum.inr (S k)) h2
      rw [val_tab, hg] at this
      exact this
    · refine ⟨_, rfl, _, .ty "str", _, _, true, rfl, .ty _, .base (.str _), kit_ty (by decide +kernel), _, rfl, iteF ?_⟩
      refine ⟨_, rfl, _, rfl, a, So.C, dx, _, _, rfl, h1, So.cl, So.nT, rfl, t, _, rfl, DGet.k (k := Sum.inr (S k)) h2, _, rfl, ?_⟩
      rw [val_tab, hg]
      exact iteT ⟨_, rfl, fun a dx ha hd ne => ⟨a, _, dx, _, rfl, upd_same, by rw [upd_ne ne.symm, upd_same], ne, fr0_none ha, raises_own Ex.bB_NoKey Ex.tB_NoKey, throw_it th (Same.refl _) ha hd ne⟩⟩
    · obtain ⟨ty, ht, kt⟩ := hn.ty (K := K)
      refine ⟨_, rfl, _, .ty "str", ty, _, false, rfl, .ty _, ht, kt, _, rfl, iteT ?_⟩
      exact iteT ⟨_, rfl, fun a dx ha hd ne => ⟨a, _, dx, _, rfl, upd_same, by rw [upd_ne ne.symm, upd_same], ne, fr0_none ha, raises_own Ex.bB_NoKey Ex.tB_NoKey, throw_it th (Same.refl _) ha hd ne⟩⟩
theorem ok_Sin (T : Top K mg) (Ex : Exs P K mg) (So : Sto K mg) : FnOk P w K mg base CX0 1 So.f_in So.d_in ["self", "x"] (spIn So.C) := by
  refine So.F_in.ok sc_Sin (fun vs H Q E h => ?_) (fun cdv A outer s H vs Q E hr h => ?_)
  · obtain ⟨a, t, L, kv, v, rfl, _⟩ := h
    rfl
  · obtain ⟨a, t, L, kv, v, rfl, hS, h⟩ := h
    refine ⟨_, (pss_one (ps_ret (pe_and (pe_callB call_isi (by rfl) T.n_isinstance (by decide +kernel) (pa_cons (pv 1) (pa_cons (pe_bltn (v := .ty "str") (by rfl) T.n_str (by decide +kernel) rfl) pa_nil))) (pe_one (pe_cmp (pc_din (by exact hu_of hr) (pv 1) (pe_fld (pv 0) rfl))))))), ?_⟩
    obtain ⟨⟨dx, h1⟩, h2⟩ := id hS
    rcases h with ⟨k, rfl, q⟩ | ⟨hn, q⟩
    · refine ⟨_, rfl, _, .ty "str", _, _, true, rfl, .ty _, .base (.str _), kit_ty (by decide +kernel), _, rfl, iteT ?_⟩
      refine ⟨_, rfl, _, rfl, a, So.C, dx, _, _, rfl, h1, So.cl, So.nT, rfl, t, _, rfl, DGet.k (k := Sum.inr (S k)) h2, ?_⟩
      rw [val_tab, Option.isSome_map]
      exact q
    · obtain ⟨ty, ht, kt⟩ := hn.ty (K := K)
      exact ⟨_, rfl, _, .ty "str", ty, _, false, rfl, .ty _, ht, kt, _, rfl, iteF q⟩
end
end K47
/-! U17: comprehensions that make things; locked dicts -/
namespace U
open PySem PySem.Spec PyProof.Rows L2
theorem Same.unlock {H H2 : Hp} {t : Addr} {u z : HO} (h : H t = some u) (s : Same (upd H t z) H2) : Same H (upd H2 t u) := fun b o e => by
  by_cases hb : b = t
  · subst hb
    rw [upd_same]
    rw [h] at e
    exact e
  · rw [upd_ne hb]
    exact s b o (by rw [upd_ne hb]; exact e)
/-- the text in a value -/
def tx : V → List Nat | .str z => z.cps.toList | _ => []
theorem tx_S (l : List Nat) : tx (.str (S l)) = l := S_toList l
theorem filter_tx (ks : List (List Nat)) (p : List Nat → Bool) : ((ks.map fun k => V.str (S k)).filter fun v => p (tx v)) = (ks.filter p).map fun k => V.str (S k) := by
  rw [List.filter_map]
  congr 1
section
variable {J : It} {xs : List V} {G : Hp → Prop} {σ : L2.St} {H H1 : Hp} {D : Addr} {Qd : Hp → Prop} {vs : List Nat} {te : TE} {j : Nat}
/-- a comprehension without tests, by an invariant of the turn, the list so far, the heap -/
theorem lcG (s : Src J xs G) (I : Nat → List V → Hp → Prop) (hw : ∀ x, wipe ((wipe σ vs).set j (some x)) vs = wipe σ vs) (hl : xs.length ≤ 100000)
    (h0 : I 0 [] (upd H1 D (.lst []))) (hG : ∀ i ys H', I i ys H' → G H')
    (ht : ∀ i x ys H', xs[i]? = some x → ys.length = i → H' D = some (.lst ys) → I i ys H' → ∀ Q : VK, (∀ y H4, H4 D = some (.lst ys) → I (i + 1) (ys ++ [y]) (upd H4 D (.lst (ys ++ [y]))) → Q y H4) → te ((wipe σ vs).set j (some x)) H' Q)
    (hd : ∀ ys H', ys.length = xs.length → H' D = some (.lst ys) → I xs.length ys H' → Qd H') :
    ∃ W : Nat → Nat → Hp → Prop, (∃ m, W 0 m (upd H1 D (.lst []))) ∧ ∀ i m H, W i m H →
      (J.stop i H ∧ Qd H) ∨ (J.go i H ∧ ∃ Nx : Hp → Prop, (∀ H', Nx H' → ∃ m', m' < m ∧ W (i + 1) m' H') ∧ ∀ x H', J.yld i H x H' → gName j x (wipe σ vs) H' fun σ2 H2 => wipe σ2 vs = wipe σ vs ∧ tYes σ2 H2 fun b H3 =>
        if b = true then te σ2 H3 fun y H4 => ∃ acc, H4 D = some (.lst acc) ∧ acc.length < sizeLine ∧ Nx (upd H4 D (.lst (acc ++ [y]))) else Nx H3) := by
  refine lc_it s.w (fun i H' => ∃ ys, ys.length = i ∧ H' D = some (.lst ys) ∧ I i ys H') ⟨[], rfl, upd_same, h0⟩ (fun i H' _ ⟨ys, _, _, h⟩ => hG i ys H' h) ?_ (fun H' ⟨ys, h1, h2, h3⟩ => hd ys H' h1 h2 h3)
  rintro i x H2 H3 hi ⟨ys, h1, h2, h3⟩ ⟨rfl, hx⟩
  refine ⟨hw x, ?_⟩
  unfold tYes
  dsimp only
  rw [if_pos rfl]
  refine ht i x ys _ hx h1 h2 h3 _ fun y H4 e4 i4 => ⟨ys, e4, ?_, ys ++ [y], by simp [h1], upd_same, i4⟩
  have := sizeLine_eq
  omega
end
theorem TupsAt.upd {H : Hp} {ts : List Addr} {l : Tab} {D : Addr} {ys : List V} {o : HO} (x : TupsAt H ts l) (h : H D = some (.lst ys)) : TupsAt (L2.upd H D o) ts l :=
  Paired.imp (fun t q e => by
    rw [upd_ne (ne_of e h (by intro z; cases z))]
    exact e) x
theorem TupsAt.snoc {H : Hp} {ts : List Addr} {l : Tab} {t : Addr} {q : List Nat × Int} (x : TupsAt H ts l) (h : H t = some (.tup [.str (S q.1), .int q.2])) : TupsAt H (ts ++ [t]) (l ++ [q]) := by
  unfold TupsAt at *
  induction x with
  | nil => exact .cons h .nil
  | cons a b ih => exact .cons a ih
theorem TupsAt.len {H : Hp} {ts : List Addr} {l : Tab} (x : TupsAt H ts l) : ts.length = l.length := Paired.length x
theorem TupsAt.take {H : Hp} {ts : List Addr} {l : Tab} (x : TupsAt H ts l) (n : Nat) : TupsAt H (ts.take n) (l.take n) := by
  unfold TupsAt at *
  induction x generalizing n with
  | nil => simp; exact .nil
  | cons a b ih =>
    cases n with
    | zero => exact .nil
    | succ n => exact .cons a (ih n)
/-- o.f in a comprehension's block -/
theorem pe_fldK {X : Cx} {K : PySem.W.Frag} {e : Expr} {f : Str} {pos : Pos} {ta : TE} (he : PE X e ta) (hb : attributeBase e f X.env (eval e X.env) = eval e X.env) (hk : X.K = K := by rfl) : PE X (.Attribute e f pos) (tFld K ta f) := hk ▸ pe_fld he hb
theorem Rd.keep {H H' : Hp} {a : Addr} {u : HO} (h : Rd H a u) (k : ∀ o, H a = some o → H' a = some o) : Rd H' a u := by
  rcases h with h | ⟨o, h⟩
  · exact .inl (k _ h)
  · exact .inr ⟨o, k _ h⟩
theorem SqL.keep {K : PySem.W.Frag} {H H' : Hp} {a : Addr} {xs : List V} (h : SqL K H a xs) (k : ∀ o, H a = some o → H' a = some o) : SqL K H' a xs := h.imp (fun h => Rd.keep h k) id
theorem SqT.keep {K : PySem.W.Frag} {H H' : Hp} {a : Addr} {xs : List V} (h : SqT K H a xs) (k : ∀ o, H a = some o → H' a = some o) : SqT K H' a xs := h.imp (fun h => Rd.keep h k) id
theorem SeqOf.keep {K : PySem.W.Frag} {H H' : Hp} {a : Addr} {xs : List V} (h : SeqOf K H a xs) (k : ∀ o, H a = some o → H' a = some o) : SeqOf K H' a xs := h.imp (fun h => SqL.keep h k) fun h => SqT.keep h k
theorem SeqIn.lst {K : PySem.W.Frag} {a p : Addr} {H : Hp} {xs : List V} (h : H p = some (.lst xs)) (n : p ≠ a) : SeqIn K a H p xs := .inl fun H' k => SqL.of (k _ _ n h)
theorem SeqIn.tup {K : PySem.W.Frag} {a p : Addr} {H : Hp} {xs : List V} (h : H p = some (.tup xs)) (n : p ≠ a) : SeqIn K a H p xs := .inr fun H' k => SqT.of (k _ _ n h)
theorem iseq_var {K : PySem.W.Frag} {σ : L2.St} {H0 H : Hp} {R : It → Hp → Prop} {a p : Addr} {xs : List V} {i : Nat} (hσ : σ[i]? = some (some (.ref p))) (h : SeqIn K a H0 p xs) (k0 : Kb a H0 H)
    (k : ∀ J G, Src J xs G → (∀ H', Kb a H0 H' → G H') → R J H) : iList K (tVar i) σ H R ∨ iTup K (tVar i) σ H R := by
  rcases h with h | h
  · exact .inl ⟨_, hσ, p, rfl, ⟨_, h _ k0⟩, k _ _ (src_list K p xs) fun H' e => h _ e⟩
  · exact .inr ⟨_, hσ, p, rfl, ⟨_, h _ k0⟩, k _ _ (src_tup K p xs) fun H' e => h _ e⟩
theorem NotS.kb {H H' : Hp} {v : V} {a C dx : Addr} {fs : List (Str × V)} (h : NotS H v) (ha : H a = some (.ins C dx fs)) (s : Kb a H H') : NotS H' v := by
  rcases h with h | h | h | ⟨p, xs, rfl, e | e⟩
  · exact .inl h
  · exact .inr (.inl h)
  · exact .inr (.inr (.inl h))
  · exact .inr (.inr (.inr ⟨p, xs, rfl, .inl (s _ _ (ne_of e ha (by intro z; cases z)) e)⟩))
  · exact .inr (.inr (.inr ⟨p, xs, rfl, .inr (s _ _ (ne_of e ha (by intro z; cases z)) e)⟩))
theorem NotI.kb {H H' : Hp} {v : V} {a C dx : Addr} {fs : List (Str × V)} (h : NotI H v) (ha : H a = some (.ins C dx fs)) (s : Kb a H H') : NotI H' v := by
  rcases h with h | h | h | ⟨p, xs, rfl, e | e⟩
  · exact .inl h
  · exact .inr (.inl h)
  · exact .inr (.inr (.inl h))
  · exact .inr (.inr (.inr ⟨p, xs, rfl, .inl (s _ _ (ne_of e ha (by intro z; cases z)) e)⟩))
  · exact .inr (.inr (.inr ⟨p, xs, rfl, .inr (s _ _ (ne_of e ha (by intro z; cases z)) e)⟩))
theorem BadKey.kb {H H' : Hp} {L : List Nat} {v : V} {a C dx : Addr} {fs : List (Str × V)} (h : BadKey H L v) (ha : H a = some (.ins C dx fs)) (s : Kb a H H') : BadKey H' L v := h.imp id fun h => h.kb ha s
theorem BadVal.kb {H H' : Hp} {v : V} {a C dx : Addr} {fs : List (Str × V)} (h : BadVal H v) (ha : H a = some (.ins C dx fs)) (s : Kb a H H') : BadVal H' v := h.imp id fun h => h.kb ha s
theorem ThrownB.at {a : Addr} {E : XK} {C : Addr} {fn : Str} {v : V} {H H1 : Hp} {o : HO} (t : ThrownB a E C fn v H) (s : Kb a H H1) (ha : H1 a = some o) : Thrown E C fn v H1 := fun H' dx s' n e =>
  t H' dx (s.trans (Kb.of s')) (s.free n (fun z => by rw [z, ha] at n; cases n)) e
theorem mergeT_snoc (kv l : Tab) (q : List Nat × Int) : mergeT kv (l ++ [q]) = putT (mergeT kv l) q.1 q.2 := by
  unfold mergeT
  rw [List.foldl_append]
  rfl
theorem len_merge : ∀ (l kv : Tab), (mergeT kv l).length ≤ kv.length + l.length
  | [], kv => Nat.le_refl _
  | q :: l, kv => by
    show (mergeT (putT kv q.1 q.2) l).length ≤ _
    have h1 := len_merge l (putT kv q.1 q.2)
    have h2 := len_put kv q.1 q.2
    rw [List.length_cons]
    omega
theorem len_put_mem {t : Tab} {k : List Nat} {v : Int} (h : k ∈ keysT t) : (putT t k v).length = t.length := by
  have := congrArg List.length (keys_put t k v)
  rw [if_pos h] at this
  simpa [keysT] using this
theorem keys_put_mem {t : Tab} {k : List Nat} {v : Int} (h : k ∈ keysT t) : keysT (putT t k v) = keysT t := by rw [keys_put, if_pos h]
theorem keys_putAll {v : Int} : ∀ {ks : List (List Nat)} {t : Tab}, (∀ k ∈ ks, k ∈ keysT t) → keysT (putAll t ks v) = keysT t
  | [], _, _ => rfl
  | k :: ks, t, h => by
    show keysT (putAll (putT t k v) ks v) = _
    have e := keys_put_mem (v := v) (h k List.mem_cons_self)
    rw [keys_putAll fun j hj => by rw [e]; exact h j (List.mem_cons_of_mem _ hj), e]
theorem len_putAll {v : Int} {ks : List (List Nat)} {t : Tab} (h : ∀ k ∈ ks, k ∈ keysT t) : (putAll t ks v).length = t.length := by
  have := congrArg List.length (keys_putAll (v := v) h)
  simpa [keysT] using this
theorem keys_dropAll : ∀ (ks : List (List Nat)) (t : Tab), keysT (dropAll t ks) = (keysT t).filter fun k => decide (k ∉ ks)
  | [], t => by
    show keysT t = _
    rw [List.filter_eq_self.mpr (fun _ _ => by simp)]
  | k :: ks, t => by
    show keysT (dropAll (dropT t k) ks) = _
    rw [keys_dropAll ks, keys_drop, List.filter_filter]
    refine List.filter_congr fun j _ => ?_
    simp only [List.mem_cons, not_or, ne_eq, Bool.decide_and]
    rw [Bool.and_comm]
theorem cut_takeV (ts : List Addr) (n : Nat) : cutV (ts.map V.ref) none (some (n : Int)) = (ts.take n).map V.ref := by
  unfold cutV
  rw [HT.sIx_none, HT.sIx_nat, List.drop_zero, Nat.sub_zero, List.map_take, List.length_map]
  show (ts.map V.ref).take (min n ts.length) = _
  by_cases hl : n ≤ ts.length
  · rw [Nat.min_eq_left hl]
  · rw [Nat.min_eq_right (by omega), List.take_of_length_le (by simp), List.take_of_length_le (by simp; omega)]
theorem not_mem_take {α : Type} : ∀ {l : List α}, l.Nodup → ∀ {i : Nat} {x : α}, l[i]? = some x → x ∉ l.take i
  | [], _, _, _, h => by simp at h
  | y :: l, nd, 0, x, h => by simp
  | y :: l, nd, i + 1, x, h => by
    rw [List.nodup_cons] at nd
    have h' : l[i]? = some x := by simpa using h
    rw [List.take_succ_cons, List.mem_cons, not_or]
    exact ⟨fun e => nd.1 (e ▸ List.mem_of_getElem? h'), not_mem_take nd.2 h'⟩
theorem pairsT_ok {kv : Tab} {L : List Nat} {ks : List (List Nat)} (hk : ∀ k ∈ ks, k ∈ keysT kv) (hw : ∀ q ∈ kv, q.1.length ≤ 1000 ∧ within L q.1 = true ∧ 0 ≤ q.2) : ∀ q ∈ pairsT kv ks, q.1.length ≤ 1000 ∧ within L q.1 = true ∧ 0 ≤ q.2 := fun q hq => by
  obtain ⟨k, hm, rfl⟩ := List.mem_map.mp hq
  have h := hk k hm
  cases e : getT kv k with
  | none => exact absurd h (getT_none.mp e)
  | some n => exact hw _ (getT_some e)
theorem TupsAt.at {H : Hp} {ts : List Addr} {l : Tab} (x : TupsAt H ts l) : ∀ t ∈ ts, ∃ q ∈ l, H t = some (.tup [.str (S q.1), .int q.2]) := by
  unfold TupsAt at x
  induction x with
  | nil => intro t h; cases h
  | cons a b ih =>
    intro t h
    rcases List.mem_cons.mp h with rfl | h
    · exact ⟨_, List.mem_cons_self, a⟩
    · obtain ⟨q, hq, e⟩ := ih t h
      exact ⟨q, List.mem_cons_of_mem _ hq, e⟩
end U
namespace K47
open PySem PySem.Spec PyProof.Rows L2 U
section
variable {P : Program} {w : World} {K : PySem.W.Frag} {mg : Str → Option Value} {base : Heap}
theorem ok_Sspots (T : Top K mg) (Ex : Exs P K mg) (So : Sto K mg) : FnOk P w K mg base CX0 2 So.f_spots So.d_spots ["self", "low", "high", "after"] (spSpots So.C) := by
  have G_is_between : FnOk P w K mg base CX0 1 T.f_is_between T.d_is_between ["text", "low", "high", "after"] sp_between := ok_is_between T Ex
  refine So.F_spots.ok sc_Sspots (fun vs H Q E h => ?_) (fun cdv A outer s H vs Q E hr h => ?_)
  · obtain ⟨a, t, L, kv, lo, hi, af, rfl, _⟩ := h
    rfl
  · obtain ⟨a, t, L, kv, lo, hi, af, rfl, hS, hl, q⟩ := h
    refine ⟨_, (pss_one (ps_ret (pe_lc (own := [("key", 4)]) (g := gName 4)  (by rfl) sc_Sspots.nd (pi_list (pe_callB U.cr_sortedA (by rfl) T.n_sorted (by decide +kernel) (pa_cons (pe_lock (pe_lc (own := [("one", 5)]) (g := gName 5) (tt := tYes) (by rfl) sc_Sspots.nd (pi_keys (pe_fld (pv 0) rfl)) (blkOk_by (own := [("one", 5)]) (N := ["self", "low", "high", "after", "key", "one"]) (sc := defScope s_Sspots) (by decide +kernel)) (fun _ _ _ _ _ => pg_name (i := 5) sc_Sspots.nd rfl (Or.inl rfl)) (fun _ _ _ _ _ => pts_nil) (fun _ _ _ _ _ => (pe_callTy SkE.call_str_str (by rfl) T.n_str (by decide +kernel) (pa_cons (pv 5) pa_nil))))) pa_nil))) (blkOk_by (own := [("key", 4)]) (N := ["self", "low", "high", "after", "key", "one"]) (sc := defScope s_Sspots) (by decide +kernel)) (fun _ _ _ _ _ => pg_name (i := 4) sc_Sspots.nd rfl (Or.inl rfl)) (fun _ _ _ _ _ => pts_one (pt_val (pe_call G_is_between (hr.mono (by decide)) (by rfl) T.g_is_between T.F_is_between.kp T.b_is_between .nil pass0 (pa_cons (pv 4) (pa_cons (pv 1) (pa_cons (pv 2) (pa_cons (pv 3) pa_nil))))))) (fun _ _ _ _ _ => (pv 4))))), ?_⟩
    obtain ⟨⟨dx, h1⟩, h2⟩ := id hS
    have hat : a ≠ t := hS.ne
    refine ⟨t, _, h2, trivial, fun od => ?_⟩
    refine ⟨_, rfl, a, So.C, dx, _, _, rfl, (by rw [upd_ne hat]; exact h1), So.cl, So.nT, rfl, t, od, rfl, .inl ⟨_, upd_same, fun D hD => ?_⟩⟩
    refine lcM (src_keys t od kv) id upd_same hD (fun _ => rfl) ?_ ?_ ?_
    · simp [keysT]; omega
    · intro x hx H' _ Q k
      obtain ⟨z, _, rfl⟩ := List.mem_map.mp hx
      exact ⟨_, rfl, _, rfl, k H' (Same.refl _)⟩
    · intro H2 s2 eD
      rw [List.map_id] at eD
      have nD : D ≠ t := fun e => by rw [e, upd_same] at hD; cases hD
      have s3 := Same.unlock h2 s2
      have nD0 : H D = none := by rw [upd_ne nD] at hD; exact hD
      refine ⟨s2 _ _ upd_same, D, (keysT kv).map S, rfl, SqL.of ?_, fun ys p pm hs hp => ?_⟩
      · rw [upd_ne nD, eD, List.map_map]; rfl
      have ey := sorted_is pm hs
      subst ey
      refine ⟨p, rfl, ⟨_, SqL.of upd_same⟩, fun D2 hD2 => ?_⟩
      have ex : (((sortT (keysT kv)).map S).map V.str) = (sortT (keysT kv)).map fun k => V.str (S k) := by rw [List.map_map]; rfl
      have s4 := Same.new (o := .lst (((sortT (keysT kv)).map S).map V.str)) s3 hp
      refine lcS (src_list K p _) (fun v => btw lo hi af (tx v)) id (SqL.of upd_same) hD2 (fun _ => rfl) ?_ ?_ ?_ ?_
      · rw [List.length_map, List.length_map, (sortT_perm _).length_eq]
        simp [keysT]; omega
      · intro x hx H' _ Q k
        rw [ex] at hx
        obtain ⟨z, _, rfl⟩ := List.mem_map.mp hx
        rw [tx_S] at k
        refine ⟨_, rfl, _, rfl, _, rfl, _, rfl, z, lo, hi, af, rfl, _, rfl, ?_⟩
        exact k H' (Same.refl _)
      · intro x hx _ H' _ Q k
        exact ⟨_, rfl, k H' (Same.refl _)⟩
      · intro H5 s5 e5
        rw [ex, filter_tx, List.map_id] at e5
        exact q D2 H5 (s4.trans s5) (s4.free hD2) e5
theorem ok_Spairs (T : Top K mg) (Ex : Exs P K mg) (So : Sto K mg) : FnOk P w K mg base CX0 3 So.f_pairs So.d_pairs ["self", "low", "high", "after"] (spPairs So.C) := by
  have So_spots : FnOk P w K mg base CX0 2 So.f_spots So.d_spots ["self", "low", "high", "after"] (spSpots So.C) := ok_Sspots T Ex So
  refine okD So.F_pairs sc_Spairs (fun vs H Q E h => ?_) (fun cdv A outer s H vs Q E hr h => ?_)
  · obtain ⟨a, t, L, kv, lo, hi, af, rfl, _⟩ := h
    rfl
  · obtain ⟨a, t, L, kv, lo, hi, af, rfl, hS, hl, q⟩ := h
    refine ⟨_, (pss_one (ps_ret (pe_lc (own := [("key", 4)]) (g := gName 4) (tt := tYes) (by rfl) sc_Spairs.nd (pi_list (pe_meth (pv 0) So.cl So.m_spots So_spots (hr.mono (by decide)) So.b_spots .nil pass0 (pa_cons (pv 1) (pa_cons (pv 2) (pa_cons (pv 3) pa_nil))))) (blkOk_by (own := [("key", 4)]) (N := ["self", "low", "high", "after", "key"]) (sc := defScope s_Spairs) (by decide +kernel)) (fun _ _ _ _ _ => pg_name (i := 4) sc_Spairs.nd rfl (Or.inl rfl)) (fun _ _ _ _ _ => pts_nil) (fun _ _ _ _ _ => (pe_tup (pa_cons (pv 4) (pa_cons (pe_dget (by exact hu_of hr) (pe_fldK (K := K) (pv 0) rfl) (pv 4) (fun _ _ => rfl)) pa_nil))))))), ?_⟩
    obtain ⟨⟨dx, h1⟩, h2⟩ := id hS
    refine ⟨_, rfl, a, dx, _, rfl, h1, rfl, _, rfl, _, rfl, _, rfl, a, t, L, kv, lo, hi, af, rfl, hS, hl, fun p H1 s1 np e1 => ?_⟩
    refine ⟨p, rfl, ⟨_, SqL.of e1⟩, fun D hD => ?_⟩
    have hs1 := hS.same s1
    have hsl := spots_len kv lo hi af
    refine lcG (src_list K p _) (fun i ys H' => Same H1 H' ∧ ∃ ts : List Addr, ys = ts.map V.ref ∧ TupsAt H' ts (pairsT kv ((spotsT kv lo hi af).take i))) (fun _ => rfl) ?_ ⟨Same.new (Same.refl _) hD, [], rfl, .nil⟩ (fun i ys H' h => SqL.of (h.1 _ _ e1)) ?_ ?_
    · rw [List.length_map]; omega
    · rintro i x ys H2 hx hi hD2 ⟨s2, ts, rfl, ht⟩ Q k
      rw [List.getElem?_map] at hx
      obtain ⟨z, hz, rfl⟩ := Option.map_eq_some_iff.mp hx
      obtain ⟨⟨dx2, g1⟩, g2⟩ := hs1.same s2
      have hk : z ∈ keysT kv := spots_mem (List.mem_of_getElem? hz)
      obtain ⟨n, hn⟩ : ∃ n, getT kv z = some n := by
        cases e : getT kv z with
        | none => exact absurd hk (getT_none.mp e)
        | some n => exact ⟨n, rfl⟩
      have hg : DGet H2 t (.str (S z)) (some (.int n)) := by
        have := DGet.k (k := Sum.inr (S z)) g2
        rw [val_tab, hn] at this
        exact this
      refine ⟨_, rfl, _, rfl, a, So.C, dx2, _, _, rfl, g1, So.cl, So.nT, rfl, _, rfl, t, _, rfl, hg, (by show (2 : Nat) ≤ sizeLine; decide), fun r nr => ?_⟩
      have nrD : r ≠ D := (ne_of_none hD2 nr).symm
      refine k _ _ (by rw [upd_ne nrD.symm]; exact hD2) ⟨?_, ts ++ [r], by simp, ?_⟩
      · exact Same.mut (Same.new s2 nr) hD
      · refine TupsAt.upd (ys := ts.map V.ref) ?_ (by rw [upd_ne nrD.symm]; exact hD2)
        rw [List.take_add_one, hz]
        show TupsAt _ _ (pairsT kv (_ ++ [z]))
        unfold pairsT
        rw [List.map_append]
        refine TupsAt.snoc (ht.same (Same.new (Same.refl _) nr)) ?_
        rw [upd_same]
        show _ = some (HO.tup [.str (S z), .int ((getT kv z).getD 0)])
        rw [hn]
        rfl
    · rintro ys H2 hy hD2 ⟨s2, ts, rfl, ht⟩
      rw [List.length_map, List.take_length] at ht
      exact q D H2 (s1.trans s2) (s1.free hD) ⟨ts, hD2, ht⟩
theorem ok_Sfill (T : Top K mg) (Ex : Exs P K mg) (So : Sto K mg) : FnOk P w K mg base (L2.CX P w) 4 So.f_fill So.d_fill ["self", "value", "low", "high", "after"] (spFill So.C Ex.C_NoValue) := by
  have G_need_value : FnOk P w K mg base (L2.CX P w) 3 T.f_need_value T.d_need_value ["value"] (sp_needV Ex.C_NoValue) := ok_need_value T Ex
  have So_spots : FnOk P w K mg base CX0 2 So.f_spots So.d_spots ["self", "low", "high", "after"] (spSpots So.C) := ok_Sspots T Ex So
  refine So.F_fill.ok sc_Sfill (fun vs H Q E h => ?_) (fun cdv A outer s H vs Q E hr h => ?_)
  · obtain ⟨a, t, L, kv, v, lo, hi, af, rfl, _⟩ := h
    rfl
  · obtain ⟨a, t, L, kv, v, lo, hi, af, rfl, hS, hl, q⟩ := h
    refine ⟨_, (pss_cons (ps_expr (pe_call G_need_value (hr.mono (by decide)) (by rfl) T.g_need_value T.F_need_value.kp T.b_need_value .nil (pass_on (takes_of rfl rfl rfl rfl)) (pa_cons (pv 1) pa_nil)))
        (pss_cons (ps_set (i := 5) sc_Sfill.nd rfl (Or.inl rfl) (pe_meth (pv 0) So.cl So.m_spots So_spots (hr.mono (by decide)) So.b_spots .nil pass0 (pa_cons (pv 2) (pa_cons (pv 3) (pa_cons (pv 4) pa_nil)))))
        (pss_cons (ps_for (passes_of rfl) rfl (pi_list (pv 5)) (pg_name (i := 6) sc_Sfill.nd rfl (Or.inl rfl)) (pss_one (ps_dput (by exact hu_of hr) (pe_fld (pv 0) rfl) (pv 6) (pv 1) rfl)))
        (pss_one (ps_ret (pe_callB call_len_seq (by rfl) T.n_len (by decide +kernel) (pa_cons (pv 5) pa_nil))))))), ?_⟩
    obtain ⟨⟨dx, h1⟩, h2⟩ := id hS
    refine ⟨_, rfl, v, rfl, ?_⟩
    rcases q with ⟨z, rfl, hz, q⟩ | ⟨hb, th⟩
    · refine .inl ⟨z, rfl, fun _ => ?_, fun c => absurd hz c⟩
      refine ⟨_, rfl, a, dx, _, rfl, h1, rfl, _, rfl, _, rfl, _, rfl, a, t, L, kv, lo, hi, af, rfl, hS, by omega, fun p H1 s1 np e1 => ?_⟩
      have npt : p ≠ t := (ne_of_none h2 np).symm
      have hat := hS.ne
      have hsl := spots_len kv lo hi af
      refine ⟨_, rfl, p, rfl, ⟨_, SqL.of e1⟩, ?_⟩
      refine for_it (src_list K p _).w (fun i σ H' => ∃ v : Option V, σ = [some (.ref a), some (.int z), some (.str (S lo)), some (optV hi), some (optV af), some (.ref p), v] ∧ Kb t H1 H' ∧ H' t = some (.dK (tabV (U.putAll kv ((spotsT kv lo hi af).take i) z))))
        ⟨none, rfl, Kb.refl _ _, s1 _ _ h2⟩ (fun i σ H' _ ⟨v, _, kb, _⟩ => SqL.of (kb _ _ npt e1)) ?_ ?_
      · rintro i x σ H2 H3 hi2 ⟨v, rfl, kb, et⟩ ⟨rfl, hx⟩
        rw [List.getElem?_map] at hx
        obtain ⟨y, hy, rfl⟩ := Option.map_eq_some_iff.mp hx
        refine ⟨_, rfl, _, rfl, a, So.C, dx, _, _, rfl, kb _ _ hat (s1 _ _ h1), So.cl, So.nT, rfl, _, rfl, t, _, rfl, DPut.k (k := Sum.inr (S y)) et ?_, ?_⟩
        · rw [tabV_len, len_putAll (fun k hk => spots_mem (List.mem_of_mem_take hk)), sizeLine_eq]; omega
        · refine ⟨_, rfl, kb.upd, ?_⟩
          rw [upd_same, put_tab, List.take_add_one, hy]
          show _ = some (HO.dK (tabV (U.putAll kv (_ ++ [y]) z)))
          unfold U.putAll
          rw [List.foldl_append]
          rfl
      · rintro σ H2 ⟨v, rfl, kb, et⟩
        rw [List.length_map, List.take_length] at et
        refine ⟨_, rfl, p, _, rfl, .inl (SqL.of (kb _ _ npt e1)), ?_⟩
        rw [List.length_map]
        exact q H2 ((Kb.of s1).trans kb) et
    · rcases hb with ⟨i, rfl, hi⟩ | hn
      · exact .inl ⟨i, rfl, fun z => absurd z (by omega), fun _ => th⟩
      · exact .inr ⟨hn, th⟩
end
end K47
namespace K47
open PySem PySem.Spec PyProof.Rows L2 U
section
variable {P : Program} {w : World} {K : PySem.W.Frag} {mg : Str → Option Value} {base : Heap}
theorem ok_Sinit (T : Top K mg) (Ex : Exs P K mg) (So : Sto K mg) : FnOk P w K mg base (L2.CX P w) 5 So.f_init So.d_init ["self", "letters", "pairs"] (spInit K So.C Ex.C_InvalidLetters Ex.C_NoText Ex.C_NoValue) := by
  have G_check_letters : FnOk P w K mg base (L2.CX P w) 2 T.f_check_letters T.d_check_letters ["letters"] (sp_check Ex.C_InvalidLetters) := ok_check_letters T Ex
  have So_put : FnOk P w K mg base (L2.CX P w) 4 So.f_put So.d_put ["self", "key", "value"] (spPut So.C Ex.C_NoText Ex.C_NoValue) := ok_Sput T Ex So
  refine So.F_init.ok sc_Sinit (fun vs H Q E h => ?_) (fun cdv A outer s H vs Q E hr h => ?_)
  · obtain ⟨a, dx, v, p, rfl, _⟩ := h
    rfl
  · obtain ⟨a, dx, v, p, rfl, ha, h⟩ := h
    refine ⟨_, (pss_cons (ps_expr (pe_call G_check_letters (hr.mono (by decide)) (by rfl) T.g_check_letters T.F_check_letters.kp T.b_check_letters .nil (pass_on (takes_of rfl rfl rfl rfl)) (pa_cons (pv 1) pa_nil)))
        (pss_cons (ps_fld (pv 0) (pv 1) rfl)
        (pss_cons (ps_fld (pv 0) pe_dnewK rfl)
        (pss_one (ps_for (passes_of rfl) rfl (PI.or (pi_list (pv 2)) (pi_tup (pv 2))) (pg_tup rfl (pgs_cons (pg_name (i := 3) sc_Sinit.nd rfl (Or.inl rfl)) (pgs_cons (pg_name (i := 4) sc_Sinit.nd rfl (Or.inl rfl)) pgs_nil))) (pss_one (ps_expr (pe_meth (pv 0) So.cl So.m_put So_put (hr.mono (by decide)) So.b_put .nil (pass_on (takes_of rfl rfl rfl rfl)) (pa_cons (pv 3) (pa_cons (pv 4) pa_nil)))))))))), ?_⟩
    refine ⟨_, rfl, v, rfl, ?_⟩
    rcases h with ⟨hb, hE⟩ | ⟨L, ts, l, post, rfl, hL, hg, hq, ht, hta, htl, hw, h⟩
    · rcases hb with ⟨l, rfl, hl, hg⟩ | hn
      · exact .inl ⟨l, rfl, hl, fun z => absurd z (by rw [hg]; decide), fun _ => hE⟩
      · exact .inr ⟨hn, hE⟩
    refine .inl ⟨L, rfl, hL, fun _ H1 s1 => ?_, fun z => absurd hg (by rw [z]; decide)⟩
    refine ⟨_, rfl, _, rfl, a, So.C, dx, _, rfl, s1 _ _ ha, So.cl, So.nL, by decide, ?_⟩
    intro t nt
    have nta : t ≠ a := fun z => by rw [z, upd_same] at nt; cases nt
    have nt1 : H1 t = none := by rw [upd_ne nta] at nt; exact nt
    refine ⟨_, rfl, a, So.C, dx, _, rfl, (by rw [upd_ne nta.symm, upd_same]), So.cl, So.nT, (by show (1 : Nat) < 1000; decide), ?_⟩
    have kb0 : Kb a H (upd (upd (upd H1 a (.ins So.C dx (putF "letters" (.str (S L)) []))) t (.dK [])) a (.ins So.C dx (putF "table" (.ref t) (putF "letters" (.str (S L)) [])))) := fun b o n e => by
      rw [upd_ne n, upd_ne (ne_of_none (s1 _ _ e) nt1), upd_ne n]
      exact s1 _ _ e
    have st0 : StoreAt (upd (upd (upd H1 a (.ins So.C dx (putF "letters" (.str (S L)) []))) t (.dK [])) a (.ins So.C dx (putF "table" (.ref t) (putF "letters" (.str (S L)) [])))) So.C a t L [] := by
      refine ⟨⟨dx, upd_same⟩, ?_⟩
      rw [upd_ne nta, upd_same]
      rfl
    revert kb0 st0
    generalize (upd (upd (upd H1 a (.ins So.C dx (putF "letters" (.str (S L)) []))) t (.dK [])) a (.ins So.C dx (putF "table" (.ref t) (putF "letters" (.str (S L)) [])))) = H2
    intro kb0 st0
    have ht0 : H t = none := s1.free nt1
    refine iseq_var rfl hq kb0 (fun J G sr hG => ?_)
    refine for_it sr.w (fun i σ H' => ∃ kO vO : Option V, σ = [some (.ref a), some (.str (S L)), some (.ref p), kO, vO] ∧ Kb a H H' ∧ StoreAt H' So.C a t L (mergeT [] (l.take i)) ∧ i ≤ ts.length)
      ⟨none, none, rfl, kb0, st0, Nat.zero_le _⟩ (fun i σ H' _ ⟨_, _, _, kb, _⟩ => hG H' kb) ?_ ?_
    · rintro i x σ H3 H4 hi ⟨kO, vO, rfl, kb, st, hil⟩ ⟨rfl, hx⟩
      have hlen : ts.length = l.length := Paired.length ht
      have hml := len_merge (l.take i) []
      have hmt : (l.take i).length ≤ i := by rw [List.length_take]; omega
      have hml2 : (mergeT [] (l.take i)).length < 10000 := by simp only [List.length_nil] at hml; omega
      obtain ⟨⟨dx3, g1⟩, g2⟩ := id st
      by_cases hlt : i < ts.length
      · rw [List.getElem?_append_left (by simpa using hlt), List.getElem?_map] at hx
        obtain ⟨q, hqi, rfl⟩ := Option.map_eq_some_iff.mp hx
        obtain ⟨y, hy, hsq⟩ := L2.paired_get ht hqi
        have hqa : q ≠ a := hta q (List.mem_of_getElem? hqi)
        obtain ⟨w1, w2, w3⟩ := hw y (List.mem_of_getElem? hy)
        refine ⟨q, _, rfl, SqT.keep hsq (fun o e => kb _ _ hqa e), rfl, _, _, rfl, _, _, rfl, rfl, ?_⟩
        refine ⟨_, rfl, a, dx3, _, rfl, g1, rfl, _, rfl, _, rfl, a, t, L, _, _, _, rfl, st, hml2, .inl ⟨y.1, y.2, rfl, rfl, w1, w2, w3, fun H5 kb5 e5 => ?_⟩⟩
        refine ⟨_, _, rfl, fun b o n e => kb5 _ _ (ne_of_none e ht0) (kb _ _ n e), ?_, hlt⟩
        · rw [List.take_add_one, hy]
          show StoreAt H5 So.C a t L (mergeT [] (_ ++ [y]))
          rw [mergeT_snoc]
          exact st.put kb5 e5
      · have hi2 : i = ts.length := by omega
        rcases h with ⟨rfl, q⟩ | ⟨b, more, rfl, hW⟩
        · rw [List.append_nil, List.length_map] at hi
          omega
        · rw [List.getElem?_append_right (by simp; omega), List.length_map, hi2, Nat.sub_self] at hx
          have hx : b = x := by simpa using hx
          subst hx
          obtain ⟨q, key, val, rfl, hqa, hsq, hW⟩ := hW
          refine ⟨q, _, rfl, SqT.keep hsq (fun o e => kb _ _ hqa e), rfl, _, _, rfl, _, _, rfl, rfl, ?_⟩
          refine ⟨_, rfl, a, dx3, _, rfl, g1, rfl, _, rfl, _, rfl, a, t, L, _, _, _, rfl, st, hml2, .inr ?_⟩
          rcases hW with ⟨hbk, th⟩ | ⟨k, rfl, hk, hkw, hbv, th⟩
          · exact .inl ⟨hbk.kb ha kb, th.at kb g1⟩
          · exact .inr ⟨k, rfl, hk, hkw, hbv.kb ha kb, th.at kb g1⟩
    · rintro σ H3 ⟨kO, vO, rfl, kb, st, hil⟩
      rw [List.length_append, List.length_map] at hil
      rcases h with ⟨rfl, q⟩ | ⟨b, more, rfl, hW⟩
      · have hlen : ts.length = l.length := Paired.length ht
        rw [List.append_nil, List.length_map, hlen, List.take_length] at st
        exact q t H3 kb (s1.free nt1) st
      · rw [List.length_cons] at hil
        omega
end
end K47
/-! U18: pairs as data; tables that are right -/
namespace U
open PySem PySem.Spec PyProof.Rows L2
/-- all but some is kept -/
def Kx (l : List Addr) (H H' : Hp) : Prop := ∀ b o, b ∉ l → H b = some o → H' b = some o
theorem Kx.refl (l : List Addr) (H : Hp) : Kx l H H := fun _ _ _ h => h
theorem Kx.trans {l : List Addr} {H H1 H2 : Hp} (x : Kx l H H1) (y : Kx l H1 H2) : Kx l H H2 := fun b o n h => y b o n (x b o n h)
theorem Kx.of {l : List Addr} {H H' : Hp} (s : Same H H') : Kx l H H' := fun b o _ h => s b o h
theorem Kx.kp {l : List Addr} {a c : Addr} {H H' : Hp} (s : Kp a c H H') (h1 : a ∈ l) (h2 : c ∈ l) : Kx l H H' := fun b o n h => s b o (fun e => n (e ▸ h1)) (fun e => n (e ▸ h2)) h
theorem Kx.kb {l : List Addr} {t : Addr} {H H' : Hp} (s : Kb t H H') (h1 : t ∈ l) : Kx l H H' := fun b o n h => s b o (fun e => n (e ▸ h1)) h
theorem Kx.upd {l : List Addr} {t : Addr} {H H' : Hp} {o : HO} (s : Kx l H H') (h1 : t ∈ l) : Kx l H (L2.upd H' t o) := fun b u n h => by
  rw [upd_ne (fun (e : b = t) => n (e ▸ h1))]
  exact s b u n h
theorem Kx.new {l : List Addr} {p : Addr} {H H' : Hp} {o : HO} (s : Kx l H H') (h1 : H' p = none) : Kx l H (L2.upd H' p o) := fun b u n h => by
  have := s b u n h
  rw [upd_ne (ne_of_none this h1)]
  exact this
/-- what a table of pairs says as data -/
def ptD (q : List Nat × Int) : PyData := .tuple [.str (S q.1), .int q.2]
theorem dpTups {K : PySem.W.Frag} {H : Hp} {ts : List Addr} {l : Tab} (x : TupsAt H ts l) : DpAll K H (ts.map V.ref) (l.map ptD) := by
  unfold TupsAt at x
  induction x with
  | nil => exact .nil
  | cons a b ih => exact .cons (.tup (SqT.of a) (.cons (.str _) (.cons (.int _) .nil))) ih
theorem dpPairs {K : PySem.W.Frag} {H : Hp} {p : Addr} {l : Tab} (x : PairsAt H p l) : Dp K H (.ref p) (.list (l.map ptD)) := by
  obtain ⟨ts, h1, h2⟩ := x
  exact .lst (SqL.of h1) (dpTups h2)
/-- keys over letters, not too long; values in bounds; no key twice -/
structure TabOk (L : List Nat) (n m : Nat) (kv : Tab) : Prop where
  nd : (keysT kv).Nodup
  few : kv.length ≤ m
  ok : ∀ q ∈ kv, q.1.length ≤ n ∧ within L q.1 = true ∧ 0 ≤ q.2 ∧ q.2 < 10 ^ 18
/-- pairs likewise -/
def PrsOk (L : List Nat) (n : Nat) (l : Tab) : Prop := ∀ q ∈ l, q.1.length ≤ n ∧ within L q.1 = true ∧ 0 ≤ q.2 ∧ q.2 < 10 ^ 18
theorem TabOk.nil (L : List Nat) (n m : Nat) : TabOk L n m [] := ⟨List.nodup_nil, Nat.zero_le _, fun _ h => nomatch h⟩
theorem TabOk.put {L : List Nat} {n m : Nat} {kv : Tab} (x : TabOk L n m kv) {k : List Nat} {v : Int} (h1 : k.length ≤ n) (h2 : within L k = true) (h3 : 0 ≤ v) (h4 : v < 10 ^ 18) : TabOk L n (m + 1) (putT kv k v) :=
  ⟨nd_put x.nd k v, Nat.le_trans (len_put kv k v) (Nat.succ_le_succ x.few), fun q hq => by
    rcases mem_put hq with rfl | hq
    · exact ⟨h1, h2, h3, h4⟩
    · exact x.ok q hq⟩
theorem TabOk.putM {L : List Nat} {n m : Nat} {kv : Tab} (x : TabOk L n m kv) {k : List Nat} {v : Int} (hk : k ∈ keysT kv) (h3 : 0 ≤ v) (h4 : v < 10 ^ 18) : TabOk L n m (putT kv k v) := by
  obtain ⟨p, hp, rfl⟩ := List.mem_map.mp hk
  obtain ⟨o1, o2, _⟩ := x.ok p hp
  exact ⟨nd_put x.nd _ v, by rw [len_put_mem hk]; exact x.few, (x.put o1 o2 h3 h4).ok⟩
theorem TabOk.mono {L : List Nat} {n m n' m' : Nat} {kv : Tab} (x : TabOk L n m kv) (h1 : n ≤ n') (h2 : m ≤ m') : TabOk L n' m' kv :=
  ⟨x.nd, Nat.le_trans x.few h2, fun q hq => let ⟨a, b⟩ := x.ok q hq; ⟨Nat.le_trans a h1, b⟩⟩
theorem TabOk.drop {L : List Nat} {n m : Nat} {kv : Tab} (x : TabOk L n m kv) (k : List Nat) : TabOk L n m (dropT kv k) :=
  ⟨nd_drop x.nd k, Nat.le_trans (len_drop kv k) x.few, fun q hq => x.ok q (mem_drop hq)⟩
theorem TabOk.dropAll {L : List Nat} {n m : Nat} : ∀ (ks : List (List Nat)) {kv : Tab}, TabOk L n m kv → TabOk L n m (U.dropAll kv ks)
  | [], _, x => x
  | k :: ks, _, x => TabOk.dropAll ks (x.drop k)
theorem TabOk.putAll {L : List Nat} {n m : Nat} {v : Int} (h3 : 0 ≤ v) (h4 : v < 10 ^ 18) : ∀ (ks : List (List Nat)) {kv : Tab}, TabOk L n m kv → (∀ k ∈ ks, k ∈ keysT kv) → TabOk L n m (U.putAll kv ks v)
  | [], _, x, _ => x
  | k :: ks, _, x, h => TabOk.putAll h3 h4 ks (x.putM (h k List.mem_cons_self) h3 h4) fun j hj => by
      rw [keys_put_mem (h k List.mem_cons_self)]
      exact h j (List.mem_cons_of_mem _ hj)
theorem pairsT_prs {L : List Nat} {n : Nat} {kv : Tab} {ks : List (List Nat)} (hk : ∀ k ∈ ks, k ∈ keysT kv) (hw : PrsOk L n kv) : PrsOk L n (pairsT kv ks) := fun q hq => by
  obtain ⟨k, hm, rfl⟩ := List.mem_map.mp hq
  have h := hk k hm
  cases e : getT kv k with
  | none => exact absurd h (getT_none.mp e)
  | some n => exact hw _ (getT_some e)
theorem PrsOk.take {L : List Nat} {n : Nat} {l : Tab} (h : PrsOk L n l) (i : Nat) : PrsOk L n (l.take i) := fun q hq => h q (List.mem_of_mem_take hq)
theorem within_mem {L l : List Nat} (h : within L l = true) : ∀ c ∈ l, c ∈ L := fun c hc => of_decide_eq_true (List.all_eq_true.mp h c hc)
theorem within_of {L l : List Nat} (h : ∀ c ∈ l, c ∈ L) : within L l = true := List.all_eq_true.mpr fun c hc => decide_eq_true (h c hc)
theorem Sm.le {d : PyData} {n n' k k' : Nat} (h : Sm d n k) (h1 : n ≤ n') (h2 : k ≤ k') : Sm d n' k' := ⟨h.sh, h.nd, Nat.le_trans h.dp h2, Nat.le_trans h.ln h1⟩
theorem SmAll.le {d : List PyData} {n n' k k' : Nat} (h : SmAll d n k) (h1 : n ≤ n') (h2 : k ≤ k') : SmAll d n' k' := ⟨h.sh, h.nd, Nat.le_trans h.dp h2, Nat.le_trans h.ln h1⟩
theorem smPair {L : List Nat} (hL : ∀ c ∈ L, c < 1114112) {q : List Nat × Int} (h : q.1.length ≤ 160 ∧ within L q.1 = true ∧ 0 ≤ q.2 ∧ q.2 < 10 ^ 18) : Sm (ptD q) 1650 1 := by
  obtain ⟨h1, h2, h3, h4⟩ := h
  refine (Sm.tup (SmAll.cons (Sm.str fun c hc => hL c (within_mem h2 c hc)) (SmAll.cons (Sm_int30 (i := q.2) ?_) SmAll.nil (Nat.le_refl 0)) (Nat.le_refl 0))).le ?_ (Nat.le_refl _)
  · have : (10 : Nat) ^ 18 < 10 ^ 31 := by decide
    omega
  · omega
theorem smPairs {L : List Nat} (hL : ∀ c ∈ L, c < 1114112) : ∀ {l : Tab}, PrsOk L 160 l → SmAll (l.map ptD) (l.length * 1652) 1
  | [], _ => SmAll.nil
  | q :: l, h => by
    refine (SmAll.cons (smPair hL (h q List.mem_cons_self)) (smPairs hL fun r hr => h r (List.mem_cons_of_mem _ hr)) (Nat.le_refl _)).le ?_ (Nat.le_refl _)
    rw [List.length_cons]
    omega
theorem smList {L : List Nat} (hL : ∀ c ∈ L, c < 1114112) {l : Tab} (h : PrsOk L 160 l) (hl : l.length ≤ 160) : Sm (.list (l.map ptD)) 300000 2 := (Sm.lst (smPairs hL h)).le (by omega) (Nat.le_refl _)
theorem strOk_of {l : List Nat} (h : ∀ c ∈ l, c < 1114112) : PyData.strOk (S l) = true := by
  simp only [PyData.strOk, S]
  simpa using h
theorem layPairs {L : List Nat} (hL : ∀ c ∈ L, c < 1114112) {n : Nat} : ∀ {l : Tab}, PrsOk L n l → PyData.canLayAll0 (l.map ptD) = true
  | [], _ => rfl
  | q :: l, h => by
    obtain ⟨_, h2, _⟩ := h q List.mem_cons_self
    have e := strOk_of fun c hc => hL c (within_mem h2 c hc)
    have ih := layPairs hL fun r hr => h r (List.mem_cons_of_mem _ hr)
    simp [PyData.canLayAll0, PyData.canLay0, ptD, e, ih]
theorem depPairs : ∀ (l : Tab), PyData.depthAll (l.map ptD) ≤ 1
  | [] => Nat.zero_le _
  | q :: l => by
    have := depPairs l
    simp only [List.map_cons, PyData.depthAll, ptD, PyData.depth]
    omega
theorem shPairs {L : List Nat} (hL : ∀ c ∈ L, c < 1114112) {n : Nat} {l : Tab} (h : PrsOk L n l) : SeqAt.shaped (.list (l.map ptD)) = true := by
  have := depPairs l
  simp only [SeqAt.shaped, PyData.canLay0, PyData.depth, layPairs hL h, Bool.true_and]
  exact decide_eq_true (by omega)
theorem eqv_nilP (l : Tab) : PyData.eqv (.list (l.map ptD)) (.list []) = decide (l = []) := by
  cases l <;> simp [PyData.eqv, PyData.eqvAll]
theorem btw_split (lo : List Nat) (hi af : Option (List Nat)) (l : List (List Nat)) : ((l.filter fun k => !decide (k < lo) && (hi.all fun h => decide (k < h))).filter fun k => af.all fun a => decide (a < k)) = l.filter (btw lo hi af) := by
  rw [List.filter_filter]
  refine List.filter_congr fun k _ => ?_
  unfold btw
  rw [Bool.and_comm]
theorem TupsAt.erase {H : Hp} {ts : List Addr} {l : Tab} (x : TupsAt H ts l) (i : Nat) : TupsAt H (ts.eraseIdx i) (l.eraseIdx i) := by
  unfold TupsAt at *
  induction x generalizing i with
  | nil => exact .nil
  | cons a b ih =>
    cases i with
    | zero => exact b
    | succ i => exact .cons a (ih i)
theorem cut_S (L : List Nat) (lo hi : Option Int) : ∃ c : List Nat, cutS (S L) lo hi = S c ∧ c.length ≤ L.length ∧ ∀ x ∈ c, x ∈ L := by
  refine ⟨(cutS (S L) lo hi).cps.toList, (S_cps _).symm, ?_, fun x hx => ?_⟩
  · have := cutS_length (S L) lo hi
    rw [S_len] at this
    simpa [Str.length] using this
  · unfold cutS at hx
    rw [List.toList_toArray] at hx
    have := List.mem_of_mem_drop (List.mem_of_mem_take hx)
    rwa [S_toList] at this
end U
/-! U19: own methods in a try; data that stays; repr in suites -/
namespace U
open PySem PySem.Spec PyProof.Rows L2
mutual
theorem Dp.same {K : PySem.W.Frag} {H H' : Hp} (s : Same H H') : ∀ (d : PyData) (v : V), Dp K H v d → Dp K H' v d
  | .none, _, h => by cases h; exact .non
  | .bool b, _, h => by cases h; exact .bl b
  | .int i, _, h => by cases h; exact .int i
  | .str x, _, h => by cases h; exact .str x
  | .list ds, _, h => by
    cases h with
    | lst a b => exact .lst (s.seq a) (Dp.sameAll s ds _ b)
  | .tuple ds, _, h => by
    cases h with
    | tup a b => exact .tup (Same.tup s a) (Dp.sameAll s ds _ b)
  | .dict _, _, h => by cases h
theorem Dp.sameAll {K : PySem.W.Frag} {H H' : Hp} (s : Same H H') : ∀ (ds : List PyData) (vs : List V), DpAll K H vs ds → DpAll K H' vs ds
  | [], _, h => by cases h; exact .nil
  | d :: ds, _, h => by
    cases h with
    | cons a b => exact .cons (Dp.same s d _ a) (Dp.sameAll s ds _ b)
end
section
variable {X : Cx} {CX : CXT} {k : Nat} {f C : Addr} {fd : FuncData} {ps : List Str} {sp : Sp}
theorem run_subS {E : XK} {A : Around} {pins : List (Addr × Obj)} {σ : L2.St} {H : Hp} {s : Shared} {Q : VK} {us : List Value} {vs : List V} (F : FnOk X.prog X.w X.K X.mg X.base CX k f fd ps sp) (hr : Room k A) (hA : A.frames = X.A.frames) (hb : Binds X.K fd ps [])
    (hx : PassesAt CX X σ E) (I : Inv X pins σ H s) (r : Vals vs us) (h : sp vs H Q E) : wpAny (model X.prog X.w) A (call (.ref f) us) (EP X pins σ Q) X.xe s := by
  have e := I.env0
  have e0 : Env0 X.prog X.w X.K X.mg X.base A X.stack s H := ⟨hA.trans e.frames, e.mod, e.bs, e.bsz, e.funs, e.frf, e.hok, e.bare⟩
  have hl : us.length = ps.length := by rw [← r.length]; exact F.len _ _ _ _ h
  have hB : BindsTo s fd ⟨us, []⟩ (ps.zip us) := by
    have := hb s us I.kIn (by simpa using hl)
    simpa using this
  refine wpAny_call (codeAny_mono (F.run A X.stack s H ⟨us, []⟩ us vs Q E hr e0 hB r h) fun rr s' hq => ?_)
  cases rr with
  | error e => exact hx pins H s e s' I hq
  | ok fl => cases fl with
    | ret u => exact I.after hq
    | next => exact False.elim hq
    | brk => exact False.elim hq
    | cont => exact False.elim hq
/-- o[i] in a try, o of the class at C -/
def tIxOS (C : Addr) (sp : Sp) (E : L2.St → XK) (ta tb : TE) : TE := fun σ H Q => ta σ H fun x H1 => tb σ H1 fun y H2 => ∃ a dx fs, x = .ref a ∧ H2 a = some (.ins C dx fs) ∧ sp [.ref a, y] H2 Q (E σ)
theorem pe_ixOS {E : L2.St → XK} {a b : Expr} {ta tb : TE} {pos : Pos} (d : Dn X.K C "__getitem__" f) (fi : PySem.W.fnIn X.K f = true) (F : FnOk X.prog X.w X.K X.mg X.base CX k f fd ps sp) (hr : Room (k + 1) X.A) (hb : Binds X.K fd ps []) (hx : ∀ σ, PassesAt CX X σ (E σ)) (ha : PE X a ta) (hi : PE X b tb)
    (hsl : ∀ x i, subscripted b true (.ref x) i = runValue (.builtin "lifetime.subscript" ⟨[.ref x, i], []⟩) := by intro _ _; rfl) : PE X (.Subscript a b pos) (tIxOS C sp E ta tb) := by
  refine ⟨fun pins s σ H Q I h => ?_⟩
  refine Subscript_ (binT ha hi I (R := fun x y H2 => ∃ a dx fs, x = .ref a ∧ H2 a = some (.ins C dx fs) ∧ sp [.ref a, y] H2 Q (E σ)) h fun v u s2 x y H2 I2 rx ry q => ?_)
  obtain ⟨a, dx, fs, rfl, ea, q⟩ := q
  cases rx
  obtain ⟨od, J⟩ := inst_at I2 ea
  obtain ⟨m, hF⟩ := I2.fr
  exact PySem.W.sub_K hF I2.ok.mod.kin J d.at_ fi d.fn (run_subS (us := [.ref a, u]) (vs := [.ref a, _]) F hr.in1 rfl hb (hx σ) I2 (.cons rfl (.cons ry .nil)) q) (hsl _ _)
end
/-- repr, the frame said -/
def rRepr (K : PySem.W.Frag) : List V → Hp → VK → Prop := fun xs H Q => ∃ (v : V) (d : PyData) (n k : Nat), xs = [v] ∧ Dp K H v d ∧ Sm d n k ∧ n ≤ 1000000 ∧ k ≤ 50 ∧ Q (.str d.shown) H
theorem call_reprK {X : Cx} {K : PySem.W.Frag} (hg : X.A.guards = some []) (hu : X.A.units + 64 < cLine) (hk : X.K = K := by rfl) : CallR X (.builtin "repr") (rRepr K) := by
  subst hk
  exact call_reprS hg hu
end U
/-! U20: stores and tables while the deal goes on; lists of pairs of a table -/
namespace U
open PySem PySem.Spec PyProof.Rows L2
theorem Deal.neL {a c p : Addr} {H : Hp} {o : HO} (d : Deal H a c) (h : H p = some o) (hn : ∀ xs, o ≠ .lst xs) : p ≠ a ∧ p ≠ c := by
  obtain ⟨ns, m, d⟩ := d
  exact ⟨fun e => hn _ (by rw [e, d.hd] at h; exact (Option.some.inj h).symm), fun e => hn _ (by rw [e, d.cs] at h; exact (Option.some.inj h).symm)⟩
theorem Kp.at {a c p : Addr} {H H' : Hp} {o : HO} (k : Kp a c H H') (d : Deal H a c) (h : H p = some o) (hn : ∀ xs, o ≠ .lst xs) : H' p = some o := k _ _ (d.neL h hn).1 (d.neL h hn).2 h
theorem StoreAt.kp {H H' : Hp} {a c C b t : Addr} {L : List Nat} {kv : Tab} (x : StoreAt H C b t L kv) (d : Deal H a c) (k : Kp a c H H') : StoreAt H' C b t L kv := by
  obtain ⟨⟨dx, h1⟩, h2⟩ := x
  exact ⟨⟨dx, k.at d h1 (fun _ z => nomatch z)⟩, k.at d h2 (fun _ z => nomatch z)⟩
theorem TupsAt.kp {H H' : Hp} {a c : Addr} {ts : List Addr} {l : Tab} (x : TupsAt H ts l) (d : Deal H a c) (k : Kp a c H H') : TupsAt H' ts l := Paired.imp (fun _ _ h => k.at d h (by intro _ z; cases z)) x
theorem PairsAt.kp {H H' : Hp} {a c p : Addr} {l : Tab} (x : PairsAt H p l) (d : Deal H a c) (k : Kp a c H H') (n1 : p ≠ a) (n2 : p ≠ c) : PairsAt H' p l := by
  obtain ⟨ts, h1, h2⟩ := x
  exact ⟨ts, k _ _ n1 n2 h1, h2.kp d k⟩
theorem PairsAt.upd {H : Hp} {p q : Addr} {l : Tab} {ys : List V} {o : HO} (x : PairsAt H p l) (h : H q = some (.lst ys)) (n : p ≠ q) : PairsAt (L2.upd H q o) p l := by
  obtain ⟨ts, h1, h2⟩ := x
  exact ⟨ts, by rw [upd_ne n]; exact h1, h2.upd h⟩
/-- [(k, table[k]) for k in ..] -/
theorem lcPairs {J : It} {G : Hp → Prop} {σ : L2.St} {H1 : Hp} {D d : Addr} {Qd : Hp → Prop} {vs : List Nat} {i j : Nat} {ks : List (List Nat)} {kv : Tab} (s : Src J (ks.map fun k => V.str (S k)) G) (hG : ∀ H', Same H1 H' → G H') (hD : H1 D = none)
    (hk : ∀ k ∈ ks, k ∈ keysT kv) (hd : Rd H1 d (.dK (tabV kv))) (hσ : ∀ x, ((wipe σ vs).set j (some x))[i]? = some (some (.ref d))) (hj : ∀ x, ((wipe σ vs).set j (some x))[j]? = some (some x)) (hw : ∀ x, wipe ((wipe σ vs).set j (some x)) vs = wipe σ vs) (hl : ks.length ≤ 10000)
    (fin : ∀ H', Same H1 H' → PairsAt H' D (pairsT kv ks) → Qd H') :
    ∃ W : Nat → Nat → Hp → Prop, (∃ m, W 0 m (upd H1 D (.lst []))) ∧ ∀ i' m H, W i' m H →
      (J.stop i' H ∧ Qd H) ∨ (J.go i' H ∧ ∃ Nx : Hp → Prop, (∀ H', Nx H' → ∃ m', m' < m ∧ W (i' + 1) m' H') ∧ ∀ x H', J.yld i' H x H' → gName j x (wipe σ vs) H' fun σ2 H2 => wipe σ2 vs = wipe σ vs ∧ tYes σ2 H2 fun b H3 =>
        if b = true then tTup (tCons (tVar j) (tCons (tDGet (tVar i) (tVar j)) tNil)) σ2 H3 fun y H4 => ∃ acc, H4 D = some (.lst acc) ∧ acc.length < sizeLine ∧ Nx (upd H4 D (.lst (acc ++ [y]))) else Nx H3) := by
  refine lcG s (fun i ys H' => Same H1 H' ∧ ∃ ts : List Addr, ys = ts.map V.ref ∧ TupsAt H' ts (pairsT kv (ks.take i))) hw (by rw [List.length_map]; omega) ⟨Same.new (Same.refl _) hD, [], rfl, .nil⟩ (fun i ys H' h => hG _ h.1) ?_ ?_
  · rintro i' x ys H2 hx hi hD2 ⟨s2, ts, rfl, ht⟩ Q k
    rw [List.getElem?_map] at hx
    obtain ⟨z, hz, rfl⟩ := Option.map_eq_some_iff.mp hx
    have hkz : z ∈ keysT kv := hk z (List.mem_of_getElem? hz)
    obtain ⟨n, hn⟩ : ∃ n, getT kv z = some n := by
      cases e : getT kv z with
      | none => exact absurd hkz (getT_none.mp e)
      | some n => exact ⟨n, rfl⟩
    have hg : DGet H2 d (.str (S z)) (some (.int n)) := by
      refine .inl ⟨_, Sum.inr (S z), Same.rd s2 hd, rfl, ?_⟩
      rw [val_tab, hn]
      rfl
    refine ⟨_, hj _, _, hσ _, _, hj _, d, _, rfl, hg, (by show (2 : Nat) ≤ sizeLine; decide), fun r nr => ?_⟩
    have nrD : r ≠ D := (ne_of_none hD2 nr).symm
    refine k _ _ (by rw [upd_ne nrD.symm]; exact hD2) ⟨?_, ts ++ [r], by simp, ?_⟩
    · exact Same.mut (Same.new s2 nr) hD
    · refine TupsAt.upd (ys := ts.map V.ref) ?_ (by rw [upd_ne nrD.symm]; exact hD2)
      rw [List.take_add_one, hz]
      show TupsAt _ _ (pairsT kv (_ ++ [z]))
      unfold pairsT
      rw [List.map_append]
      refine TupsAt.snoc (ht.same (Same.new (Same.refl _) nr)) ?_
      rw [upd_same]
      show _ = some (HO.tup [.str (S z), .int ((getT kv z).getD 0)])
      rw [hn]
      rfl
  · rintro ys H2 hy hD2 ⟨s2, ts, rfl, ht⟩
    rw [List.length_map, List.take_length] at ht
    exact fin H2 s2 ⟨ts, hD2, ht⟩
theorem smTwo {L : List Nat} (hL : ∀ c ∈ L, c < 1114112) {l : Tab} (h : PrsOk L 160 l) (hl : l.length ≤ 160) (n : Nat) : Sm (.list [.list (l.map ptD), .list ((l.take n).map ptD)]) 700000 3 :=
  (Sm.lst (SmAll.cons (smList hL h hl) (SmAll.cons (smList hL (h.take n) (by rw [List.length_take]; omega)) SmAll.nil (Nat.le_refl 2)) (Nat.le_refl 2))).le (by decide) (Nat.le_refl _)
theorem PairsAt.take {K : PySem.W.Frag} {H : Hp} {p q : Addr} {ts : List Addr} {l : Tab} (h2 : TupsAt H ts l) (hq : H q = none) (n : Nat) : PairsAt (L2.upd H q (.lst (cutV (ts.map V.ref) none (some (n : Int))))) q (l.take n) :=
  ⟨ts.take n, by rw [upd_same, cut_takeV], (h2.take n).same (Same.new (Same.refl _) hq)⟩
/-- two ways come together: what follows is shown once -/
theorem join1 {α : Type} {F T : α → Hp → Prop} {G : Prop} (a : (∀ k H, F k H → T k H) → G) (b : ∀ k H, F k H → T k H) : G := a b
theorem join3 {α β γ : Type} {F T : α → β → γ → Hp → Prop} {G : Prop} (a : (∀ x y z H, F x y z H → T x y z H) → G) (b : ∀ x y z H, F x y z H → T x y z H) : G := a b
theorem Deal.kx {a c : Addr} {H H' : Hp} {l : List Addr} (d : Deal H a c) (k : Kx l H H') (h1 : a ∉ l) (h2 : c ∉ l) : Deal H' a c := by
  obtain ⟨ns, m, d⟩ := d
  exact ⟨ns, m, ⟨k _ _ h1 d.hd, k _ _ h2 d.cs, d.pos, d.few, d.m0, d.m1⟩⟩
theorem Deal.kb {a c t : Addr} {H H' : Hp} {o : HO} (d : Deal H a c) (k : Kb t H H') (h : H t = some o) (hn : ∀ xs, o ≠ .lst xs) : Deal H' a c := by
  obtain ⟨n1, n2⟩ := d.neL h hn
  obtain ⟨ns, m, d⟩ := d
  exact ⟨ns, m, ⟨k _ _ n1.symm d.hd, k _ _ n2.symm d.cs, d.pos, d.few, d.m0, d.m1⟩⟩
theorem StoreAt.kb {H H' : Hp} {C b t d : Addr} {L : List Nat} {kv : Tab} (x : StoreAt H C b t L kv) (k : Kb d H H') (h1 : b ≠ d) (h2 : t ≠ d) : StoreAt H' C b t L kv := by
  obtain ⟨⟨dx, e1⟩, e2⟩ := x
  exact ⟨⟨dx, k _ _ h1 e1⟩, k _ _ h2 e2⟩
theorem repr_int {n : Nat} : (PyData.int (n : Int)).shown = Str.ofString (toString (n : Int)) := rfl
end U
/-! U21: equal tables; wider letters -/
namespace U
open PySem PySem.Spec PyProof.Rows L2
theorem tabEq_true {u v : Tab} (h1 : u.length = v.length) (h2 : ∀ q ∈ u, getT v q.1 = some q.2) : tabEq u v = true := by
  unfold tabEq
  rw [tabV_len, tabV_len, h1, beq_self_eq_true, Bool.true_and]
  unfold eqD
  rw [List.all_eq_true]
  intro p hp
  obtain ⟨q, hq, rfl⟩ := List.mem_map.mp hp
  show (match valV (tabV v) (Sum.inr (S q.1)) with | some v => eqV (.int q.2) v | none => false) = true
  rw [val_tab, h2 q hq]
  simp [eqV]
theorem tabEq_len {u v : Tab} (h1 : u.length ≠ v.length) : tabEq u v = false := by
  unfold tabEq
  rw [tabV_len, tabV_len, beq_eq_false_iff_ne.mpr h1, Bool.false_and]
theorem tabEq_val {u v : Tab} {q : List Nat × Int} (h1 : q ∈ u) (h2 : getT v q.1 ≠ some q.2) : tabEq u v = false := by
  unfold tabEq
  have : eqD (tabV u) (tabV v) = false := by
    unfold eqD
    rw [List.all_eq_false]
    refine ⟨ent q, List.mem_map.mpr ⟨q, h1, rfl⟩, ?_⟩
    show ¬ (match valV (tabV v) (Sum.inr (S q.1)) with | some v => eqV (.int q.2) v | none => false) = true
    rw [val_tab]
    cases e : getT v q.1 with
    | none => simp
    | some z =>
      simp only [Option.map_some, eqV]
      intro hh
      refine h2 ?_
      rw [e]
      have : q.2 = z := by simpa using hh
      rw [this]
  rw [this, Bool.and_false]
theorem put_new {t : Tab} {k : List Nat} {v : Int} (h : k ∉ keysT t) : putT t k v = t ++ [(k, v)] := by
  unfold putT
  rw [if_neg]
  intro hh
  rw [List.any_eq_true] at hh
  obtain ⟨p, hp, e⟩ := hh
  exact h (List.mem_map.mpr ⟨p, hp, of_decide_eq_true e⟩)
theorem merge_nd : ∀ {l kv : Tab}, (keysT (kv ++ l)).Nodup → mergeT kv l = kv ++ l
  | [], kv, _ => by simp [mergeT]
  | q :: l, kv, h => by
    show mergeT (putT kv q.1 q.2) l = _
    have hk : q.1 ∉ keysT kv := by
      unfold keysT at h
      rw [List.map_append, List.map_cons, List.nodup_append] at h
      intro hm
      exact h.2.2 _ hm _ List.mem_cons_self rfl
    rw [put_new hk, merge_nd (by simpa using h)]
    simp
theorem merge_self {l : Tab} (h : (keysT l).Nodup) : mergeT [] l = l := by
  have := merge_nd (l := l) (kv := []) (by simpa using h)
  simpa using this
theorem pairs_all {kv : Tab} (nd : (keysT kv).Nodup) : pairsT kv (keysT kv) = kv := by
  unfold pairsT keysT
  rw [List.map_map]
  conv => rhs; rw [← List.map_id kv]
  refine List.map_congr_left fun p hp => ?_
  show (p.1, (getT kv p.1).getD 0) = p
  rw [getT_mem nd hp]
  rfl
theorem keys_pairs (kv : Tab) (ks : List (List Nat)) : keysT (pairsT kv ks) = ks := by
  unfold keysT pairsT
  rw [List.map_map]
  conv => rhs; rw [← List.map_id ks]
  rfl
theorem copy_eq {kv : Tab} (nd : (keysT kv).Nodup) : mergeT [] (pairsT kv (sortT (keysT kv))) = pairsT kv (sortT (keysT kv)) := by
  refine merge_self ?_
  rw [keys_pairs]
  exact (sortT_perm _).nodup_iff.mpr nd
theorem tabEq_copy {kv : Tab} (nd : (keysT kv).Nodup) : tabEq (pairsT kv (sortT (keysT kv))) kv = true := by
  refine tabEq_true ?_ fun q hq => ?_
  · rw [pairsT_len, (sortT_perm _).length_eq]
    simp [keysT]
  · obtain ⟨k, hk, rfl⟩ := List.mem_map.mp hq
    have hm : k ∈ keysT kv := (sortT_perm _).mem_iff.mp hk
    cases e : getT kv k with
    | none => exact absurd hm (getT_none.mp e)
    | some n => rfl
theorem perm_nd {l kv : Tab} (nd : (keysT kv).Nodup) (pm : l.Perm kv) : (keysT l).Nodup := (pm.map _).nodup_iff.mpr nd
theorem tabEq_perm {l kv : Tab} (nd : (keysT kv).Nodup) (pm : l.Perm kv) : tabEq l kv = true :=
  tabEq_true pm.length_eq fun q hq => getT_mem nd (pm.mem_iff.mp hq)
theorem getT_perm {l kv : Tab} (nd : (keysT kv).Nodup) (pm : l.Perm kv) (k : List Nat) : getT l k = getT kv k := by
  cases e : getT kv k with
  | none =>
    rw [getT_none] at e ⊢
    exact fun h => e ((pm.map _).mem_iff.mp h)
  | some v => exact getT_mem (p := (k, v)) (perm_nd nd pm) (pm.mem_iff.mpr (getT_some e))
theorem pairs_perm {l kv : Tab} (nd : (keysT kv).Nodup) (pm : l.Perm kv) : pairsT l (spotsT l [] none none) = pairsT kv (spotsT kv [] none none) := by
  have e : sortT (keysT l) = sortT (keysT kv) := sortT_of_perm (pm.map _)
  rw [spots_all, spots_all, e]
  unfold pairsT
  exact List.map_congr_left fun k _ => by rw [getT_perm nd pm]
/-- the copy, changed in one place, is not equal -/
theorem tabEq_changed {kv : Tab} (nd : (keysT kv).Nodup) (k : List Nat) : tabEq (putT (pairsT kv (sortT (keysT kv))) k (((getT kv k).getD 0 + 1) % 5)) kv = false := by
  have hm : (k, (((getT kv k).getD 0 + 1) % 5)) ∈ putT (pairsT kv (sortT (keysT kv))) k (((getT kv k).getD 0 + 1) % 5) := by
    have := getT_put (pairsT kv (sortT (keysT kv))) k k (((getT kv k).getD 0 + 1) % 5)
    rw [if_pos rfl] at this
    exact getT_some this
  refine tabEq_val hm ?_
  cases e : getT kv k with
  | none => simp
  | some z =>
    simp only [Option.getD_some]
    intro hh
    have : z = (z + 1) % 5 := by injection hh
    omega
theorem mem_tab_nil {kv : Tab} : tabEq [] kv = decide (kv = []) := by
  cases kv with
  | nil => rfl
  | cons q kv => rw [tabEq_len (by simp)]; rfl
theorem asc_of_pw {l : List Nat} (h : l.Pairwise (· < ·)) : asc l = true := by
  unfold asc
  rw [List.all_eq_true]
  intro i hi
  rw [List.mem_range] at hi
  have h1 : i < l.length := by omega
  have h2 : i + 1 < l.length := by omega
  have := List.pairwise_iff_getElem.mp h i (i + 1) h1 h2 (by omega)
  simpa [List.getD, List.getElem?_eq_getElem h1, List.getElem?_eq_getElem h2] using this
theorem good_of {L : List Nat} {n : Nat} (h : Letters L n) (h2 : 2 ≤ n) (h5 : n ≤ 5) : good L = true := by
  unfold good
  rw [within_of h.sub, asc_of_pw h.asc]
  have := h.len
  simp; omega
theorem PairsAt.kb {H H' : Hp} {p u : Addr} {l : Tab} {xs : List (Key × V)} (x : PairsAt H p l) (k : Kb u H H') (h : H u = some (.dK xs)) : PairsAt H' p l := by
  obtain ⟨ts, h1, h2⟩ := x
  exact ⟨ts, k _ _ (ne_of h1 h (by intro z; cases z)) h1, Paired.imp (fun t q e => k _ _ (ne_of e h (by intro z; cases z)) e) h2⟩
theorem nd_len {α : Type} [DecidableEq α] : ∀ {l m : List α}, l.Nodup → (∀ x ∈ l, x ∈ m) → l.length ≤ m.length
  | [], _, _, _ => Nat.zero_le _
  | x :: l, m, nd, h => by
    rw [List.nodup_cons] at nd
    have hx := h x List.mem_cons_self
    have := nd_len (m := m.erase x) nd.2 fun y hy => by
      have hne : y ≠ x := fun e => nd.1 (e ▸ hy)
      exact (List.mem_erase_of_ne hne).mpr (h y (List.mem_cons_of_mem _ hy))
    rw [List.length_erase_of_mem hx] at this
    have : 0 < m.length := List.length_pos_of_mem hx
    rw [List.length_cons]
    omega
def strangers : List Nat := [97, 98, 99, 120, 121, 122]
theorem strange {L : List Nat} (h : L.length ≤ 5) : ∃ x r, (strangers.filter fun c => !decide (c ∈ L)) = x :: r ∧ x ∈ signs ∧ x ∉ L := by
  cases e : strangers.filter fun c => !decide (c ∈ L) with
  | nil =>
    rw [List.filter_eq_nil_iff] at e
    have := nd_len (l := strangers) (m := L) (by decide) fun x hx => by
      have := e x hx
      simpa using this
    have h6 : strangers.length = 6 := rfl
    omega
  | cons x r =>
    have hm : x ∈ strangers.filter fun c => !decide (c ∈ L) := by rw [e]; exact List.mem_cons_self
    obtain ⟨h1, h2⟩ := List.mem_filter.mp hm
    refine ⟨x, r, rfl, ?_, by simpa using h2⟩
    have key : ∀ c ∈ strangers, c ∈ signs := by rw [signs_eq]; decide
    exact key x h1
theorem strangers_S : Str.ofString "abcxyz" = S strangers := by decide +kernel
theorem filter_sg (L l : List Nat) : (chars l).filter (fun x => !decide (sg x ∈ L)) = chars (l.filter fun c => !decide (c ∈ L)) := by
  simp only [chars, List.filter_map]
  rfl
theorem getD_map (o : Option Int) : (o.map V.int).getD (.int 0) = .int (o.getD 0) := by cases o <;> rfl
theorem tab_nil_eq (kv : Tab) : ((tabV kv).length == ([] : List (Key × V)).length && eqD (tabV kv) []) = decide (kv = []) := by
  cases kv with
  | nil => rfl
  | cons q kv => rfl
theorem dpDict {K : PySem.W.Frag} {H : Hp} {ts : List Addr} {l : Tab} (x : TupsAt H ts l) : Paired (fun p kv => SqT K H p [kV kv.1, kv.2]) ts (l.map ent) := by
  unfold TupsAt at x
  induction x with
  | nil => exact .nil
  | cons a b ih => exact .cons (SqT.of a) ih
/-- one more letter -/
theorem wider {L l : List Nat} {n x : Nat} (h : Letters L n) (h2 : 2 ≤ n) (h5 : n ≤ 5) (hx : x ∈ signs) (hn : x ∉ L) (pm : l.Perm (L.take 4 ++ [x])) (hs : sortedS (l.map fun c => S [c]) = true) : good l = true ∧ l.length ≤ 5 ∧ x ∈ l ∧ (n < 5 → ∀ c ∈ L, c ∈ l) ∧ ∀ c ∈ l, c < 1114112 := by
  have hnd : L.Nodup := asc_nd h.asc
  have ndW : (L.take 4 ++ [x]).Nodup := by
    rw [List.nodup_append]
    refine ⟨hnd.sublist (List.take_sublist _ _), by simp, ?_⟩
    intro a ha b hb e
    rw [List.mem_singleton.mp hb] at e
    subst e
    exact hn (List.mem_of_mem_take ha)
  have hlen : l.length = min 4 n + 1 := by
    rw [pm.length_eq, List.length_append, List.length_take, h.len]
    rfl
  have hsub : ∀ c ∈ l, c ∈ signs := fun c hc => by
    rcases List.mem_append.mp (pm.mem_iff.mp hc) with hc | hc
    · exact h.sub c (List.mem_of_mem_take hc)
    · rw [List.mem_singleton.mp hc]; exact hx
  have hlt : Letters l l.length := ⟨rfl, asc_of (sorted_ones hs) (pm.nodup_iff.mpr ndW), hsub⟩
  refine ⟨good_of hlt (by omega) (by omega), by omega, pm.mem_iff.mpr (by simp), fun h4 c hc => ?_, fun c hc => signs_small (hsub c hc)⟩
  refine pm.mem_iff.mpr (List.mem_append_left _ ?_)
  rw [List.take_of_length_le (by rw [h.len]; omega)]
  exact hc
theorem within_wide {L l k : List Nat} (h : ∀ c ∈ L, c ∈ l) (hw : within L k = true) : within l k = true := within_of fun c hc => h c (within_mem hw c hc)
/-- Store(letters) -/
theorem make0 {K : PySem.W.Frag} {C CL CT CV e0 : Addr} {H : Hp} {L : List Nat} {R : Addr → Hp → Prop} {E : XK} (he : ∀ H', SqT K H' e0 []) (hg : good L = true) (hL : L.length ≤ 1000) (k : ∀ x u H', Same H H' → H x = none → H u = none → StoreAt H' C x u L [] → R x H') :
    ∀ x dx, H x = none → H dx = none → dx ≠ x → spInit K C CL CT CV (.ref x :: ([.str (S L)] ++ [.ref e0])) (upd (upd H dx (.own x)) x (.ins C dx [])) (fun v H2 => v = .non ∧ R x H2) E := fun x dx nx ndx ne => by
  have s2 : Same H (upd (upd H dx (.own x)) x (.ins C dx [])) := Same.new (Same.new (Same.refl _) ndx) (by rw [upd_ne ne.symm]; exact nx)
  refine ⟨x, dx, .str (S L), e0, rfl, upd_same, .inr ⟨L, [], [], [], rfl, hL, hg, .inr fun H' _ => he H', .nil, (fun _ h => nomatch h), by decide, (fun _ h => nomatch h), .inl ⟨rfl, fun u H' kb nu st => ⟨rfl, ?_⟩⟩⟩⟩
  exact k x u H' (fun c o e => kb _ _ (ne_of_none e nx) (s2 _ _ e)) nx (s2.free nu) st
/-- Store(letters, pairs) -/
theorem makeP {K : PySem.W.Frag} {C CL CT CV p : Addr} {H : Hp} {L : List Nat} {R : Addr → Hp → Prop} {E : XK} {ts : List Addr} {l : Tab} (hp : H p = some (.lst (ts.map V.ref)) ∨ H p = some (.tup (ts.map V.ref))) (ht : TupsAt H ts l) (hl : l.length < 10000) (hw : ∀ q ∈ l, q.1.length ≤ 1000 ∧ within L q.1 = true ∧ 0 ≤ q.2)
    (hg : good L = true) (hL : L.length ≤ 1000) (k : ∀ x u H', Same H H' → H x = none → H u = none → StoreAt H' C x u L (mergeT [] l) → R x H') :
    ∀ x dx, H x = none → H dx = none → dx ≠ x → spInit K C CL CT CV (.ref x :: ([.str (S L), .ref p] ++ [])) (upd (upd H dx (.own x)) x (.ins C dx [])) (fun v H2 => v = .non ∧ R x H2) E := fun x dx nx ndx ne => by
  have s2 : Same H (upd (upd H dx (.own x)) x (.ins C dx [])) := Same.new (Same.new (Same.refl _) ndx) (by rw [upd_ne ne.symm]; exact nx)
  refine ⟨x, dx, .str (S L), p, rfl, upd_same, .inr ⟨L, ts, l, [], rfl, hL, hg, ?_, (ht.same s2).tin, ?_, by rw [ht.len]; exact hl, hw, .inl ⟨rfl, fun u H' kb nu st => ⟨rfl, ?_⟩⟩⟩⟩
  · rw [List.append_nil]
    rcases hp with hp | hp
    · exact SeqIn.lst (s2 _ _ hp) (ne_of_none hp nx)
    · exact SeqIn.tup (s2 _ _ hp) (ne_of_none hp nx)
  · intro t ht'
    obtain ⟨q, _, e⟩ := ht.at t ht'
    exact ne_of_none e nx
  · exact k x u H' (fun c o e => kb _ _ (ne_of_none e nx) (s2 _ _ e)) nx (s2.free nu) st
end U
/-! U22: what an expression gives, told by a fact; merged tables; odd values -/
namespace U
open PySem PySem.Spec PyProof.Rows L2
theorem at_join {te : TE} {σ : L2.St} {H : Hp} {Q : VK} (F : V → Hp → Prop) (h1 : ∀ Q' : VK, (∀ v H', F v H' → Q' v H') → te σ H Q') (h2 : ∀ v H', F v H' → Q v H') : te σ H Q := h1 Q h2
theorem seq_join {te : TE} {g : TG} {rest : TS} {D : Ends} {σ : L2.St} {H : Hp} (F : V → Hp → Prop) (h1 : ∀ Q' : VK, (∀ v H', F v H' → Q' v H') → te σ H Q') (h2 : ∀ v H', F v H' → g v σ H' (rest D)) : tSeq (tAsg te g) rest D σ H := h1 _ h2
theorem nx_join {te : TE} {g : TG} {rest : TS} {D : Ends} {σ : L2.St} {H : Hp} {rt : V → Hp → Prop} {bk ct : L2.St → Hp → Prop} (F : V → Hp → Prop) (h1 : ∀ Q' : VK, (∀ v H', F v H' → Q' v H') → te σ H Q') (h2 : ∀ v H', F v H' → g v σ H' (rest D)) : ({ nx := tSeq (tAsg te g) rest D, rt := rt, bk := bk, ct := ct } : Ends).nx σ H := h1 _ h2
theorem merge_ok {L : List Nat} {n : Nat} : ∀ {l : Tab} {m : Nat} {kv : Tab}, PrsOk L n l → TabOk L n m kv → TabOk L n (m + l.length) (mergeT kv l)
  | [], _, _, _, x => x
  | q :: l, m, kv, h, x => by
    obtain ⟨h1, h2, h3, h4⟩ := h q List.mem_cons_self
    have := merge_ok (m := m + 1) (fun r hr => h r (List.mem_cons_of_mem _ hr)) (x.put h1 h2 h3 h4)
    rw [List.length_cons]
    exact this.mono (Nat.le_refl _) (by omega)
/-- odd values: a text, or no text; both small as data -/
def Odd (K : PySem.W.Frag) (H : Hp) (v : V) : Prop := ((∃ k, v = .str (S k)) ∨ NotS H v) ∧ ∃ d n k, Dp K H v d ∧ Sm d n k ∧ n ≤ 1000000 ∧ k ≤ 50
theorem Odd.same {K : PySem.W.Frag} {H H' : Hp} {v : V} (h : Odd K H v) (s : Same H H') : Odd K H' v := by
  obtain ⟨h1, d, n, k, h2, h3⟩ := h
  exact ⟨h1.imp id fun h => h.same s, d, n, k, Dp.same s _ _ h2, h3⟩
theorem Odd.str {K : PySem.W.Frag} {H : Hp} {k : List Nat} (h : ∀ c ∈ k, c < 1114112) (hl : k.length ≤ 1000) : Odd K H (.str (S k)) := ⟨.inl ⟨k, rfl⟩, _, _, _, .str _, Sm.str h, by omega, by decide⟩
theorem Odd.non {K : PySem.W.Frag} {H : Hp} : Odd K H .non := ⟨.inr (.inl rfl), _, _, _, .non, Sm.non, by decide, by decide⟩
theorem Odd.bl {K : PySem.W.Frag} {H : Hp} (b : Bool) : Odd K H (.bl b) := ⟨.inr (.inr (.inl ⟨b, rfl⟩)), _, _, _, .bl b, Sm.bl b, by decide, by decide⟩
theorem Odd.zero {K : PySem.W.Frag} {H : Hp} : Odd K H (.int 0) := ⟨.inr (.inr (.inr (.inl ⟨0, rfl⟩))), _, _, _, .int 0, Sm.int (by decide), by decide, by decide⟩
theorem Odd.lst {K : PySem.W.Frag} {H : Hp} {p : Addr} {k : List Nat} (h : ∀ c ∈ k, c < 1114112) (hl : k.length ≤ 1000) (e : H p = some (.lst [.str (S k)])) : Odd K H (.ref p) :=
  ⟨.inr (.inr (.inr (.inr ⟨p, _, rfl, .inl e⟩))), _, _, _, .lst (SqL.of e) (.cons (.str _) .nil), Sm.lst (SmAll.cons (Sm.str h) SmAll.nil (Nat.le_refl 0)), by omega, by decide⟩
theorem Odd.tup {K : PySem.W.Frag} {H : Hp} {p : Addr} {k : List Nat} (h : ∀ c ∈ k, c < 1114112) (hl : k.length ≤ 1000) (e : H p = some (.tup [.str (S k)])) : Odd K H (.ref p) :=
  ⟨.inr (.inr (.inr (.inr ⟨p, _, rfl, .inr e⟩))), _, _, _, .tup (SqT.of e) (.cons (.str _) .nil), Sm.tup (SmAll.cons (Sm.str h) SmAll.nil (Nat.le_refl 0)), by omega, by decide⟩
end U
/-! U23: the law's own call, with tables of code objects, guards empty -/
namespace U
open PySem PySem.Spec PyProof.Rows L2
section
variable {P : Program} {w : World} {K : PySem.W.Frag} {mg mb : Str → Option Value} {CX : CXT} {k : Nat} {fa a : Addr} {fd : FuncData} {x : Str} {sp : Sp} {st : Shared} {vs : List Value} {ns : List Int} {cs : List (Addr × Addr)}
/-- of the heap only the script and the tables are told -/
def OnlyT (cs : List (Addr × Addr)) (H : Hp) : Prop := ∀ b, H b = none ∨ (∃ p ∈ cs, b = p.2 ∧ H b = some (.tbl #[])) ∨ ∃ o xs, H b = some (.frz o (.lst xs))
theorem law_coreT (KX : K.In st.heap) (glo : st.heap.Ns mainGlobals mg) (blt : st.heap.Ns builtinsNs mb) (bt : ∀ x : Str, x ≠ "__name__" → mb x = bootBuiltins x) (lim : st.heap.NoLimit) (gn : st.gens = #[])
    (tabs : ∀ p ∈ cs, st.heap.get? p.2 = some { cls := .none, data := .fields #[] }) (codes : ∀ p ∈ cs, PySem.W.CodeHd st.heap p.1 p.2) (outT : ∀ p ∈ cs, K.lookup p.2 = none)
    (bmain : ∃ (bm : Addr) (ob : Obj), mg "__builtins__" = some (.ref bm) ∧ bm ≠ builtinsNs ∧ st.heap.get? bm = some ob ∧ ob.cls = .type "module" ∧ ob.dict = some builtinsNs ∧ ob.data = .plain)
    (obj : st.heap.get? a = some { cls := .type "list", data := .seq vs.toArray }) (room : Room k callerA)
    (F : ∀ base : Heap, K.In base → base.Ns mainGlobals mg → (∀ p ∈ cs, LamX.TabB base mg p.1 p.2) → FnG P w K mg base CX k fa fd [x] sp) (bind : ∀ (s : Shared) (u : Value), BindsTo s fd ⟨[u], []⟩ [(x, u)])
    (hCX : ∀ H e s', CX [] H st (fun _ _ _ => False) e s' → False) (H : Hp) (only : OnlyT cs H) (all : ∀ p ∈ cs, H p.2 = some (.tbl #[])) (want : sp [.ref a] H (fun v _ => v = .bl true) fun _ _ _ => False) (hok : HOk P w H st.heap)
    (just : ∀ b o xs, H b = some (.frz o (.lst xs)) → b = a) (free : H a ≠ none → K.lookup a = none) :
    codeAny (model P w) callerA (.call (.ref fa) ⟨[.ref a], []⟩) (fun r s' => r = .ok (.ret (.bool true)) ∧ OldK st.heap s'.heap ∧ s'.os = st.os ∧ AllBare s'.gens) st := by
  -- what is neither a list nor an empty table is not told
  have hid : ∀ {b : Addr} {o : Obj}, st.heap.get? b = some o → (∀ us n, o.data ≠ .seq us n) → o.data ≠ .fields #[] → (hidT st.heap H).get? b = some o := by
    intro b o e n1 n2
    refine hidT_get e ?_
    rcases only b with z | ⟨p, hp, rfl, _⟩ | ⟨q, xs, z⟩
    · exact z
    · rw [tabs p hp] at e
      cases e
      exact absurd rfl n2
    · rw [just b q xs z, obj] at e
      cases e
      exact absurd rfl (n1 _ _)
  have dicts : ∀ {b : Addr} {m : Str → Option Value}, st.heap.Ns b m → (hidT st.heap H).Ns b m := by
    rintro b m ⟨o, es, ep, e, d, r⟩
    refine ⟨o, es, ep, hid e (fun us n z => ?_) (fun z => ?_), d, r⟩
    · rw [d] at z; cases z
    · rw [d] at z; cases z
  have own : K.In (hidT st.heap H) := by
    intro b o e
    refine hidT_get (KX b o e) ?_
    rcases only b with z | ⟨p, hp, rfl, _⟩ | ⟨q, xs, z⟩
    · exact z
    · rw [outT p hp] at e; cases e
    · have hb := just b q xs z
      subst hb
      rw [free (by rw [z]; simp)] at e
      cases e
  have mod : Mod K mg (hidT st.heap H) := by
    obtain ⟨mc, h1, h2⟩ := lim
    exact ⟨own, dicts glo, ⟨mb, dicts blt, bt⟩, ⟨mc, dicts h1, h2⟩⟩
  have tb : ∀ p ∈ cs, LamX.TabB (hidT st.heap H) mg p.1 p.2 := by
    intro p hp
    refine ⟨?_, ?_, ?_⟩
    · obtain ⟨o, us, file, tf, flags, tg, inF, text, tt, e1, r1, r2, r3, rr⟩ := codes p hp
      refine ⟨o, us, file, tf, flags, tg, inF, text, tt, hid e1 (fun us n z => ?_) (fun z => ?_), r1, r2, r3, rr⟩
      · rw [r2] at z; cases z
      · rw [r2] at z; cases z; simp at r3
    · obtain ⟨bm, ob, b1, b2, b3, b4, b5, b6⟩ := bmain
      refine ⟨bm, ob, b1, b2, fun z => ?_, fun z => ?_, hid b3 (fun us n z => ?_) (fun z => ?_), b4, b5, b6⟩
      · obtain ⟨o, es, ep, e, d, _⟩ := glo
        rw [z, e] at b3
        cases b3
        rw [d] at b6
        cases b6
      · rw [z, tabs p hp] at b3
        cases b3
        cases b6
      · rw [b6] at z; cases z
      · rw [b6] at z; cases z
    · intro z
      obtain ⟨o, es, ep, e, d, _⟩ := glo
      rw [z, tabs p hp] at e
      cases e
      cases d
  have e0 : Env0 P w K mg (hidT st.heap H) callerA [] st H := by
    refine ⟨rfl, mod, fun b o e => of_hidT e, Nat.le_of_eq (hidT_size _ _), trivial, ?_, hok, .of_eq gn⟩
    intro b hb
    cases (show b ∈ ([] : List Addr) from hb)
  have ran := (F _ own (dicts glo) tb).run callerA [] st H ⟨[.ref a], []⟩ [.ref a] [.ref a] _ _ ⟨room, rfl⟩ e0 (bind st (.ref a)) (.cons rfl .nil) want
  refine codeAny_mono ran ?_
  intro res s' after
  match res, after with
  | .error err, after => exact (hCX H err s' after).elim
  | .ok .next, after => exact False.elim after
  | .ok .brk, after => exact False.elim after
  | .ok .cont, after => exact False.elim after
  | .ok (.ret u), after =>
    obtain ⟨v, H', os, bare, un, hok', rel, isT⟩ := after
    have isT : v = .bl true := isT
    subst isT
    obtain rfl : u = Value.bool true := rel
    -- a thing stays, or is a table that grew
    have stays : ∀ b o, st.heap.get? b = some o → s'.heap.get? b = some o ∨ ∃ p ∈ cs, b = p.2 ∧ o = { cls := .none, data := .fields #[] } ∧ ∃ more : Array Value, s'.heap.get? b = some { cls := .none, data := .fields more } := by
      intro b o e
      rcases only b with z | ⟨p, hp, rfl, z⟩ | ⟨ob, xs, z⟩
      · left
        refine un.keep b o e z (fun no => ?_) (by simp)
        cases (show b ∈ ([] : List Addr) from no)
      · right
        obtain ⟨more, z2⟩ := un.tbls p.2 #[] z
        rw [tabs p hp] at e
        cases e
        exact ⟨p, hp, rfl, rfl, _, hok' p.2 _ z2⟩
      · left
        have now := (hok' b _ (un.frzs b ob _ z)).1
        have was := (hok b _ z).1
        rw [e] at was
        cases was
        exact now
    refine ⟨rfl, ⟨fun b o e => ?_, fun b o e => ?_⟩, os, bare⟩
    · rcases stays b o e with h | ⟨p, hp, rfl, rfl, more, h⟩
      · exact .inl h
      · refine .inr (.inl ⟨((codes p hp).tab (tabs p hp)).isCodeTable, rfl, #[], more, rfl, ?_⟩)
        rw [Array.empty_append]
        exact h
    · rcases stays b o e with h | ⟨p, hp, rfl, rfl, more, h⟩
      · exact ⟨_, h⟩
      · exact ⟨_, h⟩
theorem law_callGT (KX : K.In st.heap) (glo : st.heap.Ns mainGlobals mg) (blt : st.heap.Ns builtinsNs mb) (bt : ∀ x : Str, x ≠ "__name__" → mb x = bootBuiltins x) (lim : st.heap.NoLimit) (gn : st.gens = #[])
    (tabs : ∀ p ∈ cs, st.heap.get? p.2 = some { cls := .none, data := .fields #[] }) (codes : ∀ p ∈ cs, PySem.W.CodeHd st.heap p.1 p.2) (outT : ∀ p ∈ cs, K.lookup p.2 = none)
    (bmain : ∃ (bm : Addr) (ob : Obj), mg "__builtins__" = some (.ref bm) ∧ bm ≠ builtinsNs ∧ st.heap.get? bm = some ob ∧ ob.cls = .type "module" ∧ ob.dict = some builtinsNs ∧ ob.data = .plain)
    (obj : st.heap.get? a = some { cls := .type "list", data := .seq vs.toArray }) (hint : IntsAre vs ns) (few : ns.length ≤ sizeLine) (room : Room k callerA)
    (F : ∀ base : Heap, K.In base → base.Ns mainGlobals mg → (∀ p ∈ cs, LamX.TabB base mg p.1 p.2) → FnG P w K mg base CX k fa fd [x] sp) (bind : ∀ (s : Shared) (u : Value), BindsTo s fd ⟨[u], []⟩ [(x, u)])
    (want : ∀ H : Hp, (∀ p ∈ cs, H p.2 = some (.tbl #[])) → SqL K H a (ns.map V.int) → sp [.ref a] H (fun v _ => v = .bl true) fun _ _ _ => False) (hCX : ∀ H e s', CX [] H st (fun _ _ _ => False) e s' → False) :
    codeAny (model P w) callerA (.call (.ref fa) ⟨[.ref a], []⟩) (fun r s' => r = .ok (.ret (.bool true)) ∧ OldK st.heap s'.heap ∧ s'.os = st.os ∧ AllBare s'.gens) st := by
  have go := law_coreT (sp := sp) KX glo blt bt lim gn tabs codes outT bmain obj room F bind hCX
  have rel := vals_ints hint
  have num := hint.length
  have notab : ∀ p ∈ cs, p.2 ≠ a := fun p hp z => by
    have := tabs p hp
    rw [z, obj] at this
    cases this
  by_cases known : K.lookup a = none
  · let obA : Obj := { cls := .type "list", data := .seq vs.toArray }
    let HH : Hp := fun b => if b = a then some (.frz obA (.lst (ns.map V.int))) else if ∃ p ∈ cs, b = p.2 then some (.tbl #[]) else none
    have at1 : HH a = some (.frz obA (.lst (ns.map V.int))) := if_pos rfl
    have at2 : ∀ p ∈ cs, HH p.2 = some (.tbl #[]) := fun p hp => (if_neg (notab p hp)).trans (if_pos ⟨p, hp, rfl⟩)
    have at3 : ∀ b, b ≠ a → (¬ ∃ p ∈ cs, b = p.2) → HH b = none := fun b n1 n2 => (if_neg n1).trans (if_neg n2)
    have only : OnlyT cs HH := fun b => by
      by_cases z : b = a
      · right; right; exact ⟨obA, ns.map V.int, by rw [z]; exact at1⟩
      · by_cases z2 : ∃ p ∈ cs, b = p.2
        · obtain ⟨p, hp, rfl⟩ := z2
          exact .inr (.inl ⟨p, hp, rfl, at2 p hp⟩)
        · exact .inl (at3 b z z2)
    refine go HH only at2 (want HH at2 (.inl (.inr ⟨obA, at1⟩))) ?_ ?_ (fun _ => known)
    · intro b o e
      by_cases z : b = a
      · subst z
        rw [at1] at e
        cases e
        exact ⟨obj, by rw [List.length_map]; exact few, vs, _, rel, obj⟩
      · by_cases z2 : ∃ p ∈ cs, b = p.2
        · obtain ⟨p, hp, rfl⟩ := z2
          rw [at2 p hp] at e
          cases e
          exact tabs p hp
        · rw [at3 b z z2] at e
          cases e
    · intro b o xs e
      by_cases z : b = a
      · exact z
      · by_cases z2 : ∃ p ∈ cs, b = p.2
        · obtain ⟨p, hp, rfl⟩ := z2
          rw [at2 p hp] at e
          cases e
        · rw [at3 b z z2] at e
          cases e
  · obtain ⟨o, known⟩ := Option.ne_none_iff_exists'.mp known
    have e := KX a o known
    rw [obj] at e
    cases e
    let HH : Hp := fun b => if ∃ p ∈ cs, b = p.2 then some (.tbl #[]) else none
    have at2 : ∀ p ∈ cs, HH p.2 = some (.tbl #[]) := fun p hp => if_pos ⟨p, hp, rfl⟩
    have at3 : ∀ b, (¬ ∃ p ∈ cs, b = p.2) → HH b = none := fun b n2 => if_neg n2
    have only : OnlyT cs HH := fun b => by
      by_cases z2 : ∃ p ∈ cs, b = p.2
      · obtain ⟨p, hp, rfl⟩ := z2
        exact .inr (.inl ⟨p, hp, rfl, at2 p hp⟩)
      · exact .inl (at3 b z2)
    refine go HH only at2 (want _ at2 (.inr ⟨_, vs.toArray, _, known, rfl, rfl, rfl, by rw [List.size_toArray, num]; exact few, by simpa using rel⟩)) ?_ (fun b o xs e => ?_) (fun n => ?_)
    · intro b o e
      by_cases z2 : ∃ p ∈ cs, b = p.2
      · obtain ⟨p, hp, rfl⟩ := z2
        rw [at2 p hp] at e
        cases e
        exact tabs p hp
      · rw [at3 b z2] at e
        cases e
    · by_cases z2 : ∃ p ∈ cs, b = p.2
      · obtain ⟨p, hp, rfl⟩ := z2
        rw [at2 p hp] at e
        cases e
      · rw [at3 b z2] at e
        cases e
    · exact absurd (at3 a fun ⟨p, hp, z⟩ => notab p hp z.symm) n
end
/-- the end, with tables -/
theorem walk_ofGT {l : PySem.W.OpenLaw} {n k : Nat} {q : Program} {loose : List Str} {XP : (Str → Option Value) → Heap → Prop} {YP : World → Heap → Prop} {d : DefRec} {K : Params → PySem.W.Frag} {CX : World → CXT} {sp : World → List (Addr × Addr) → Sp} {x : Str}
    (most : l.most = some n) (fits : n ≤ sizeLine) (plain : d.params.defaults = []) (room : Room k callerA) (hY : ∀ (w : World) (h : Heap), YP w h → (K w.params).In h)
    (F : ∀ (w : World) (mg : Str → Option Value) (fa : Addr) (h : Heap), (K w.params).In h → h.Ns mainGlobals mg → mg d.name = some (.ref fa) → ∃ (fd : FuncData) (cs : List (Addr × Addr)), (∀ (s : Shared) (u : Value), BindsTo s fd ⟨[u], []⟩ [(x, u)]) ∧
      (∀ p ∈ cs, (K w.params).lookup p.2 = none ∧ ∃ (y : Str) (r : DefRec), (recsOf q).find? (fun e => e.name == y) = some r ∧ PySem.W.tabIn (K w.params) y = some p) ∧
      ∀ base : Heap, (K w.params).In base → base.Ns mainGlobals mg → (∀ p ∈ cs, LamX.TabB base mg p.1 p.2) → FnG l.prog w (K w.params) mg base (CX w) k fa fd [x] (sp w cs))
    (want : ∀ (w : World) (cs : List (Addr × Addr)) (H : Hp) (a : Addr) (ns : List Int), ns.length ≤ n → (∀ p ∈ cs, H p.2 = some (.tbl #[])) → SqL (K w.params) H a (ns.map V.int) → sp w cs [.ref a] H (fun v _ => v = .bl true) fun _ _ _ => False)
    (hCX : ∀ (w : World) (H : Hp) (s : Shared) (e : Value) (s' : Shared), CX w [] H s (fun _ _ _ => False) e s' → False) : PySem.W.WalkO q loose XP YP l.row.toRowW d [] (fun f vs => PySem.call f vs) := by
  refine Att.attach_call most plain ?_
  intro w s₀ s₁ mg mb fa o pm cd doc a vs ns G Y ho hd hcd hmg hobj hints hlen hg
  have KX := hY w _ Y
  obtain ⟨fd, cs, hb, hcs, hF⟩ := F w mg fa _ KX G.T.g hmg
  have tc : ∀ p ∈ cs, PySem.W.CodeHd s₁.heap p.1 p.2 ∧ s₁.heap.get? p.2 = some (PySem.W.tabObj #[]) := fun p hp => by
    obtain ⟨_, y, r, h1, h2⟩ := hcs p hp
    exact PySem.W.tab_of G.T KX h1 h2
  refine law_callGT KX G.T.g G.T.b G.T.builtins G.T.nolimit hg (fun p hp => (tc p hp).2) (fun p hp => (tc p hp).1) (fun p hp => (hcs p hp).1) G.T.bmain hobj hints (Nat.le_trans hlen fits) room hF hb ?_ (fun H => hCX w H s₁)
  exact fun H hT hS => want w cs H a ns hlen hT hS
end U
/-! U24: try with several clauses, each «as n»; isinstance with a tuple of classes in a suite -/
namespace U
open PySem PySem.Spec PyProof.Rows L2
/-- what is wanted of an error by the clauses, one behind another; slot i holds it meanwhile -/
def wClauses (K : PySem.W.Frag) (i : Nat) (D : Ends) : List (Value × (Addr → Value → Option Addr → TS)) → WX
  | [] => fun _ _ _ _ => False
  | (c, ts) :: r => fun cls d σ H => ∃ b, PySem.W.exmOne K cls c = some b ∧ (b = false → wClauses K i D r cls d σ H) ∧
      (b = true → ∀ a, H a = none → ts a cls d ⟨fun σ' H' => D.nx (σ'.set i none) H', D.rt, fun σ' H' => D.bk (σ'.set i none) H', fun σ' H' => D.ct (σ'.set i none) H'⟩ (σ.set i (some (.ref a))) H)
inductive Clauses (X : Cx) (n : Str) : List ExceptHandler → List (Value × (Addr → Value → Option Addr → TS)) → Prop
  | nil : Clauses X n [] []
  | cons {y : Str} {c : Value} {ts : Addr → Value → Option Addr → TS} {st : Stmt} {more : List Stmt} {p1 p2 : Pos} {hs : List ExceptHandler} {l : List (Value × (Addr → Value → Option Addr → TS))} (nm : Names X y c)
      (su : ∀ (a : Addr) (oe : Obj) (cls : Value) (d : Option Addr) (pn : List (Addr × Obj)), Zc cls d oe → (∃ vs, oe.data = .fields vs) → PSs (X.suite a ((a, oe) :: pn)) (st :: more) (ts a cls d)) (r : Clauses X n hs l) :
      Clauses X n (.ExceptHandler (some (.Name y p1)) (some n) (st :: more) p2 :: hs) ((c, ts) :: l)
section
variable {X : Cx} {body : List Stmt} {e0 : ExceptHandler} {es : List ExceptHandler} {l : List (Value × (Addr → Value → Option Addr → TS))} {pos : Pos} {tb : WX → TS} {n : Str} {i : Nat}
theorem ps_tryAs (top : X.stack = X.env :: X.outer) (own : X.env.frame = some X.env.locals) (nd : X.N.Nodup) (at_ : X.N[i]? = some n) (kd : X.env.kindOf n = some .local)
    (hb : ∀ (W : WX) (pn : List (Addr × Obj)) (xe : Value → Shared → Prop), Takes (X.tr pn xe) W → PassesOwn (model X.prog X.w) X.A X.env xe → PSs (X.tr pn xe) body (tb W))
    (cl : Clauses X n (e0 :: es) l) : PS X (.Try body (e0 :: es) [] [] pos) (fun D σ H => tb (wClauses X.K i D l) D σ H) := by
  constructor
  intro pins s σ H D I h
  have good := I.ok
  have frames : X.A.frames = some (X.env :: X.outer) := by
    rw [good.frames]
    rw [top]
  refine wpAny_Try_except ?_
  let look : Value → Shared → Prop := fun e s₁ => wpAny (model X.prog X.w) X.A (noteFrame e X.env) (fun _ s₂ => wpAny (model X.prog X.w) X.A (setFlight e none)
    (fun _ s₃ => wpAny (model X.prog X.w) X.A (handleBy e X.env (e0 :: es)) (SP X pins D) X.xe s₃) X.xe s₂) X.xe s₁
  have caught : Takes (X.tr (X.pn ++ pins) look) (wClauses X.K i D l) := by
    rintro u s' ⟨a, B, sI, pins', σ', H', cls, d, rfl, J', nb, up, sky, na, os, ag, want⟩
    have J : Inv X pins σ' H' sI := J'.ofTry good
    have sky2 : Sky B (X.env :: X.outer) a (Zc cls d) X.env.locals s'.heap := by
      rw [← top]
      exact sky
    show wpAny (model X.prog X.w) X.A (noteFrame (.ref a) X.env) _ _ _
    refine Sky.land Zc.steady frames own sky2 fun h3 fl up3 => ?_
    have J3 : Inv X pins σ' H' { s' with heap := h3 } := J.landed nb fl.1 (up.trans up3) os ag
    obtain ⟨oe, us, there, z3, dat⟩ := fl.there
    have off : a ∉ frs (X.env :: X.outer) := by
      intro hm
      obtain ⟨_, o', e', no⟩ := fl.2.2.1.mem hm
      rw [there] at e'
      cases e'
      exact no _ dat
    have offL : a ≠ X.env.locals := by
      intro z
      refine off (List.mem_filterMap.mpr ⟨X.env, List.mem_cons_self, ?_⟩)
      rw [own, z]
    have offF : a ∉ X.fs := by
      intro hm
      obtain ⟨e, he, q⟩ := List.mem_filterMap.mp hm
      exact off (List.mem_filterMap.mpr ⟨e, List.mem_cons_of_mem _ he, q⟩)
    have S3 := J3.suite there dat na offL offF
    have each : ∀ {hs : List ExceptHandler} {m : List (Value × (Addr → Value → Option Addr → TS))}, Clauses X n hs m → wClauses X.K i D m cls d σ' H' →
        wpAny (model X.prog X.w) X.A (handleBy (.ref a) X.env hs) (SP X pins D) X.xe { s' with heap := h3 } := by
      intro hs m ok
      induction ok with
      | nil => intro z; exact z.elim
      | @cons y c ts st more p1 p2 hs2 l2 nm su r ih =>
        rintro ⟨b, eb, no, yes⟩
        refine wpAny_handleBy_cons (codeAny_handlers_test ?_) (by intro q; cases q)
        have ty : PySem.W.Looks (model X.prog X.w) h3 (typeOf (.ref a)) cls := by
          intro A Q E s k q
          refine wpAny_typeOf_ref (k _ _ there) ?_
          rw [z3.1]
          exact q
        have ask := PySem.W.exm_one (M := model X.prog X.w) (J3.kIn) ty eb
        have name : ∀ {Q : Value → Shared → Prop} {E : Value → Shared → Prop}, Q c { s' with heap := h3 } → wpAny (model X.prog X.w) (X.A.mark (some (.ref a))) (eval (.Name y p1) X.env) Q E { s' with heap := h3 } := by
          intro Q E q
          obtain ⟨g1, g2, g3⟩ := nm
          rcases g3 with g3 | ⟨g3, g4, g5⟩
          · exact ld_glob (X := X.suite a ((a, oe) :: (X.pn ++ pins))) S3 g1 g3 q g2
          · exact ld_blt (X := X.suite a ((a, oe) :: (X.pn ++ pins))) S3 g1 g3 g4 q g5 g2
        refine name (ask.here ?_)
        cases b with
        | false =>
          show wpAny _ X.A (handleBy (.ref a) X.env hs2) _ _ _
          exact ih (no rfl)
        | true =>
          refine codeAny_handlers_suite_as ?_
          refine HandSPX.lands_againZ fl fun h4 fl4 up4 => ?_
          have J4 : Inv X pins σ' H' { s' with heap := h4 } := J.landed nb fl4.1 ((up.trans up3).trans up4) os ag
          obtain ⟨o4, u4, t4, z4, d4⟩ := fl4.there
          have S4 := J4.suite t4 d4 na offL offF
          refine store_ok (X := X.suite a ((a, o4) :: (X.pn ++ pins))) (v := .ref a) S4 nd at_ (.inl kd) rfl (fun s5 S5 => ?_) (.inr kd)
          have run := (su a o4 cls d (X.pn ++ pins) z4 ⟨_, d4⟩).run [] s5 _ H' _ S5 (yes rfl a na)
          refine wpAny_mono run (fun f s6 after => ?_) (fun _ _ z => False.elim z)
          have fin : ∀ {σ6 : L2.St} {H6 : Hp} {Q : Shared → Prop}, Inv (X.suite a ((a, o4) :: (X.pn ++ pins))) [] σ6 H6 s6 → (∀ s7, Inv X pins (σ6.set i none) H6 s7 → Q s7) →
              wpAny (model X.prog X.w) X.A (do bindName X.env n .none; unbindBehindTheSuite X.env n p2) (fun _ s7 => Q s7) X.xe s6 := by
            intro σ6 H6 Q S6 hq
            exact gone_ok (S6.unsuite good) nd at_ kd hq
          match f, after with
          | .next, ⟨σ6, H6, S6, q6⟩ => exact fin S6 fun s7 J7 => ⟨_, _, J7, q6⟩
          | .brk, ⟨σ6, H6, S6, q6⟩ => exact fin S6 fun s7 J7 => ⟨_, _, J7, q6⟩
          | .cont, ⟨σ6, H6, S6, q6⟩ => exact fin S6 fun s7 J7 => ⟨_, _, J7, q6⟩
          | .ret u, ⟨v6, σ6, H6, S6, r6, q6⟩ => exact fin S6 fun s7 J7 => ⟨_, _, _, J7, r6, q6⟩
    exact each cl want
  refine wpAny_mono ((hb (wClauses X.K i D l) (X.pn ++ pins) look caught PassesOwn.looking).run [] s σ H D (I.toTry _) h) (fun f s1 after => ?_) (fun e s1 he => he)
  match f, after with
  | .next, ⟨σ', H', J', q⟩ => exact wpAny_execs_nil ⟨σ', H', J'.ofTry good, q⟩
  | .brk, ⟨σ', H', J', q⟩ => exact ⟨σ', H', J'.ofTry good, q⟩
  | .cont, ⟨σ', H', J', q⟩ => exact ⟨σ', H', J'.ofTry good, q⟩
  | .ret u, ⟨v, σ', H', J', r, q⟩ => exact ⟨v, σ', H', J'.ofTry good, r, q⟩
end
end U
/-! U25: a lambda handed to a def that calls it in a try; the wish of an error may look at the slots -/
namespace U
open PySem PySem.Spec PyProof.Rows L2 LamX
section
variable {X : Cx} {pins : List (Addr × Obj)} {σ : L2.St} {H : Hp} {s : Shared}
/-- work(), in the def that got the lambda -/
theorem pe_actS {CXg : CXT} {Eg : XK} {Ng : List Str} {qg : Str} {sg : Scope} {g f c' : Addr} {cdg pm ctv : Value} {params : Arguments} {body : Expr} {scope : Scope} {k i : Nat} {a : Str} {pn : List (Addr × Obj)} {xe : Value → Shared → Prop} {W : WX} {tb : XK → TE} {p1 p2 : Pos}
    (I : Inv X pins σ H s) (L : LamS X.env.scope scope) (there : s.heap.get? f = some (PySem.W.kla_obj "<lambda>" (X.env.qual ++ "<lambda>") params body scope (cloFrom X.env.cells scope.names []) pm c' ctv)) (off : H f = none) (offF : f ∉ frs X.stack)
    (none_ : bindArgs (PySem.W.kla_fn "<lambda>" (X.env.qual ++ "<lambda>") params body scope (cloFrom X.env.cells scope.names []) pm (.ref c') ctv) ⟨[], []⟩ = pure [])
    (tk : Takes ((cxOf CXg X.prog X.w X.K X.mg X.base Ng qg sg g cdg X.A X.stack s H Eg).tr pn xe) W) (room : Room (k + 1) (X.A.deeper (envOfC qg sg s.heap.objs.size g cdg)))
    (hbody : ∀ (A : Around) (outer : List Env) (s : Shared) (H : Hp) (E : XK), Room k (A.deeper (lamEnv X scope s.heap.objs.size f c')) → PE (lamCx X A outer s H E scope f c') body (tb E))
    (hN : Ng[i]? = some a) (hv : Vis sg a) (hd : (a == ("__debug__" : Str)) = false) (hcd : (a == ("__classdict__" : Str)) = false) :
    PE ((cxOf CXg X.prog X.w X.K X.mg X.base Ng qg sg g cdg X.A X.stack s H Eg).tr pn xe) (.Call (.Name a p1) [] [] p2)
      (fun σZ HZ Q => σZ[i]? = some (some (.ref f)) ∧ HZ c' = some (CodeO c' (X.env.qual ++ "<lambda>")) ∧ tb (WE W σZ) σ HZ Q) := by
  constructor
  rintro pinsZ sZ σZ HZ Q IZ ⟨slot, code, want⟩
  have name := (pe_var (pos := p1) (i := i) hN hv hd hcd).run pinsZ sZ σZ HZ (fun v H1 => v = .ref f ∧ H1 = HZ) IZ ⟨.ref f, slot, rfl, rfl⟩
  refine wpAny_Call_Name_kw (thn name ?_)
  rintro u s1 ⟨v, H1, I1, r1, rfl, rfl⟩
  obtain rfl : u = Value.ref f := r1
  have still : s1.heap.get? f = some (PySem.W.kla_obj "<lambda>" (X.env.qual ++ "<lambda>") params body scope (cloFrom X.env.cells scope.names []) pm c' ctv) := by
    refine I1.base.keep f _ there off offF ?_
    intro z
    cases (show f ∈ ([] : List Addr) from z)
  refine PySem.W.callWith_F0 ⟨_, _, _, _, still⟩ ?_
  obtain ⟨⟨oc, vs, t, o1, o2, o3⟩, _, _⟩ := I1.hok c' _ code
  have ran : codeAny (model X.prog X.w) (X.A.deeper (envOfC qg sg s.heap.objs.size g cdg)) (.call (.ref f) ⟨[], []⟩) (CR (L2.CX X.prog X.w) (envOfC qg sg s.heap.objs.size g cdg :: X.stack) X.prog X.w H1 s1 Q (WE W σZ)) s1 := by
    refine PySem.W.kla_callFunE room.depth still rfl L.co L.gen rfl ⟨c', oc, vs, t, rfl, o1, o2, o3⟩ ?_
    rw [none_]
    refine wpAny_pure (wpAny_newFunctionEnv (fun y hy => (L.own y hy).2) (fun y hy => absurd hy (by simp)) ?_ L.kind)
    intro h₁ ns sb
    refine ⟨I1.nolimit.fresh _ sb, ?_⟩
    show codeAny _ _ (.expr body (lamEnv X scope s1.heap.objs.size f c')) _ _
    have kp : ∀ b o, s1.heap.get? b = some o → h₁.get? b = some o := by
      intro b o e
      exact sb.extBut b o (Nat.ne_of_lt (Heap.lt_size e)) (Heap.get?_push_of_some _ e)
    have J := lam_start2 (tk := s1.toks + ([] : List (Str × Value)).length) (E := WE W σZ) (f := f) (c' := c') I L I1.env0 room.hd I1.base ns kp
    refine PySem.W.kla_codeExpr (wpAny_mono ((hbody _ _ s1 H1 _ (room.deeper _)).run [] _ _ H1 Q J want) ?_ fun e s' hq => hq)
    rintro v s' ⟨w', H', J', rv, q⟩
    exact ⟨w', H', J'.os, J'.bare, J'.base, J'.hok, rv, q⟩
  refine wpAny_call (codeAny_mono ran ?_)
  intro r s' hq
  match r, hq with
  | .error e, hq => exact passAt tk σZ pinsZ H1 s1 e s' I1 hq
  | .ok (.ret u), hq => exact I1.after hq
  | .ok .next, hq => exact False.elim hq
  | .ok .brk, hq => exact False.elim hq
  | .ok .cont, hq => exact False.elim hq
end
/-- what the def makes of what it got: tl the reading of its call -/
def GivesS (X : Cx) (Ng : List Str) (x : Str) (sg : Scope) (g : Addr) (cdg : Value) (bg : List Stmt) (a : Str) (q : Str) (TT : (XK → Hp → VK → Prop) → Hp → VK → Prop) : Prop :=
  ∀ (f c' : Addr) (s : Shared) (H : Hp) (Q : VK) (tl : XK → Hp → VK → Prop),
    (∀ (W : WX) (pn : List (Addr × Obj)) (xe : Value → Shared → Prop) (p1 p2 : Pos), Takes ((cxOf C8.CX0 X.prog X.w X.K X.mg X.base Ng x sg g cdg X.A X.stack s H C8.E0).tr pn xe) W →
      PE ((cxOf C8.CX0 X.prog X.w X.K X.mg X.base Ng x sg g cdg X.A X.stack s H C8.E0).tr pn xe) (.Call (.Name a p1) [] [] p2) (fun σZ HZ Q => σZ[0]? = some (some (.ref f)) ∧ HZ c' = some (CodeO c' q) ∧ tl (WE W σZ) HZ Q)) →
    H c' = some (CodeO c' q) → TT tl H Q →
    ∃ t, PSs (cxOf C8.CX0 X.prog X.w X.K X.mg X.base Ng x sg g cdg X.A X.stack s H C8.E0).nox bg t ∧ t { nx := fun _ H' => Q .non H', rt := Q } (L2.start Ng [.ref f]) H
section
variable {X : Cx}
/-- x(lambda: body) -/
theorem pe_lamS {T : List (Addr × Str)} {TT : (XK → Hp → VK → Prop) → Hp → VK → Prop} {x a : Str} {g c P : Addr} {k : Nat} {st : Stmt} {fd : FuncData} {Ng : List Str} {params : Arguments} {body : Expr} {scope : Scope} {t : XK → TE} {p lpos pos : Pos}
    (F : Fun X.K x x st g fd) (hg : Gl X x) (hm : X.mg x = some (.ref g)) (hb : L2.Binds X.K fd [a] []) (Sg : FnScope Ng [a] (defScope st)) (hNg : Ng[0]? = some a) (hva : Vis (defScope st) a)
    (hG : ∀ cdg, GivesS X Ng x (defScope st) g cdg (defBody st) a (X.env.qual ++ "<lambda>") TT)
    (TB : TabB X.base X.mg c P) (hcode : X.env.code = .ref c) (hmT : (P, X.env.qual ++ "<lambda>") ∈ T) (hu : ∀ p ∈ T, p.1 = P → p.2 = X.env.qual ++ "<lambda>") (room : Room (k + 2) X.A) (L : LamS X.env.scope scope)
    (hbody : ∀ (A : Around) (outer : List Env) (s : Shared) (H : Hp) (E : XK) (f c' : Addr), Room k (A.deeper (lamEnv X scope s.heap.objs.size f c')) → PE (lamCx X A outer s H E scope f c') body (t E))
    (hdef : defaultsOf params X.env = ([], []) := by rfl) (none_ : ∀ (q : Str) (cl : List (Str × Addr)) (pm cv ctv : Value), bindArgs (PySem.W.kla_fn "<lambda>" q params body scope cl pm cv ctv) ⟨[], []⟩ = pure [] := by intros; rfl)
    (hdb : (x == ("__debug__" : Str)) = false := by decide) (hd : (a == ("__debug__" : Str)) = false := by decide) (hcd : (a == ("__classdict__" : Str)) = false := by decide) :
    PE X (.Call (.Name x p) [.Lambda params body scope lpos] [] pos) (tLam T TT t) := by
  obtain ⟨oc, od, kV, doc, pm, an, cdv, ct, osl, rfl, lk, hcg⟩ := F.ex
  constructor
  rintro pins s σ H Q I ⟨hT, h⟩
  refine wpAny_Call_Name_kw (ld_glob I hg hm ?_ hdb)
  refine PySem.W.callWith_K (h₀ := X.base) I.ok.mod.kin F.kp ?_ (by rfl) (by rfl)
  show wpAny _ _ (spliced ((false, eval (.Lambda params body scope lpos) X.env) :: backTo pos (starEach [] X.env))) _ _ s
  refine Calls.spliced_cons (lam_make2 I TB hcode hmT hu hT hdef (L.has I.ok) ?_)
  intro f c' pm' ctv H1 s' I1 eN T1 hf hfn hfr hco
  refine Calls.spliced_nil ⟨I1.kIn, ?_⟩
  have ran : codeAny (model X.prog X.w) X.A (.call (.ref g) ⟨[.ref f], []⟩) (CR C8.CX0 X.stack X.prog X.w H1 s' Q C8.E0) s' := by
    refine run_ofS (N := Ng) (ps := [a]) (us := [.ref f]) (vs := [.ref f]) lk hcg Sg room I1.env0 (hb s' [.ref f] I1.kIn rfl) (.cons rfl .nil) rfl ?_
    intro room'
    obtain ⟨t', d', q'⟩ := hG cdv f c' s' H1 Q (fun E H' Q' => t E σ H' Q')
      (fun W pn xe p1 p2 tk => pe_actS (i := 0) I1 L hf hfn hfr (none_ _ _ _ _ _) tk room' (fun A outer s H E hr2 => hbody A outer s H E f c' hr2) hNg hva hd hcd) hco (h H1 eN T1)
    exact ⟨t', d'.nox, q'⟩
  refine wpAny_call (codeAny_mono ran ?_)
  intro r s2 hq
  match r, hq with
  | .error e, hq => exact (show False from hq).elim
  | .ok (.ret u), hq => exact I1.after hq
  | .ok .next, hq => exact False.elim hq
  | .ok .brk, hq => exact False.elim hq
  | .ok .cont, hq => exact False.elim hq
end
/-- isinstance(e, (c, ..)) in a suite -/
def rIsExT (K : PySem.W.Frag) (a : Addr) (cls : Value) (d : Option Addr) : List V → Hp → VK → Prop := fun xs H Q => ∃ (D tp : Addr) (cs : List V) (ws : List Value) (b : Bool), xs = [.ref a, .ref tp] ∧ H tp = some (.tup cs) ∧ Paired ClsV cs ws ∧ cls = .ref D ∧ (d = none ∨ ∃ dd fs, d = some dd ∧ H dd = some (.xd fs)) ∧ ExcC K D ∧ PySem.W.kitAny K (.ref D) ws = some b ∧ Q (.bl b) H
theorem call_isExT {X : Cx} {a : Addr} {oe : Obj} {cls : Value} {d : Option Addr} {pn : List (Addr × Obj)} (hz : Zc cls d oe) (hf : ∃ vs, oe.data = .fields vs) : CallR (X.suite a ((a, oe) :: pn)) (.builtin "isinstance") (rIsExT X.K a cls d) := by
  intro pins s σ H xs us Q I r h
  obtain ⟨D, tp, cs, ws, b, rfl, hT, k, rfl, hd, C, e, q⟩ := h
  obtain ⟨u1, u2, rfl, r1, r2⟩ := vals2 r
  cases (show u1 = Value.ref a from r1)
  cases (show u2 = Value.ref tp from r2)
  have hcl : (PySem.W.clsIn X.K D).isSome = true := by
    obtain ⟨cd, z, _⟩ := PySem.W.any_some C.hd
    rw [z]
    rfl
  obtain ⟨od, J⟩ := inst_ex I hz hf hd
  obtain ⟨_, its, rv, o, h1, h2, n, h3⟩ := (show ObjOk X.prog X.w H s.heap tp (.tup cs) from I.hok tp _ hT)
  have e3 := ClsV.all k rv
  subst e3
  obtain ⟨oc, od', dt, sl⟩ := o
  simp only at h2 h3
  subst h2 h3
  exact PySem.W.kia_tup (PySem.W.kitx_exc hcl C.hg C.hk C.hs C.ha C.hn C.ht C.hm) I.kIn J h1 e (fun z => nomatch z) fun tk => ⟨.bl b, H, I.tok tk, rfl, q⟩
theorem kit2 {K : PySem.W.Frag} {t c d : Value} {x y : Bool} (h1 : PySem.W.kitOne K t c = some x) (h2 : PySem.W.kitOne K t d = some y) : PySem.W.kitAny K t [c, d] = some (x || y) := by
  refine kitAny_cons h1 (fun hx => ?_) (fun hx => by rw [hx]; rfl)
  rw [hx, Bool.false_or]
  refine kitAny_cons h2 (fun hy => by rw [hy]; rfl) (fun hy => hy)
end U
namespace K47
open PySem PySem.Spec PyProof.Rows L2 U
/-- what is told of an error -/
def refE (CT CV CL CK : Addr) (Q : VK) : XK := fun cls d H' =>
  (∃ dd v, cls = .ref CT ∧ d = some dd ∧ H' dd = some (.xd [("value", v)]) ∧ ∀ p H'', Same H' H'' → H' p = none → H'' p = some (.tup [.str "text", v]) → Q (.ref p) H'') ∨
  (∃ dd v, cls = .ref CV ∧ d = some dd ∧ H' dd = some (.xd [("value", v)]) ∧ ∀ p H'', Same H' H'' → H' p = none → H'' p = some (.tup [.str "value", v]) → Q (.ref p) H'') ∨
  (cls = .ref CL ∧ d = none ∧ ∀ p H'', Same H' H'' → H' p = none → H'' p = some (.tup [.str "letters"]) → Q (.ref p) H'') ∨
  (∃ dd v, cls = .ref CK ∧ d = some dd ∧ H' dd = some (.xd [("key", v)]) ∧ ∀ p H'', Same H' H'' → H' p = none → H'' p = some (.tup [.str "key", v]) → Q (.ref p) H'')
def TRef (CT CV CL CK : Addr) : (XK → Hp → VK → Prop) → Hp → VK → Prop := fun tl H Q => ∀ (E : XK) (Q' : VK), (∀ cls d H', refE CT CV CL CK Q cls d H' → E cls d H') → (∀ v H', Q .non H' → Q' v H') → tl E H Q'
theorem ref_gives {X : Cx} {P : Program} (T : Top X.K X.mg) (Ex : Exs P X.K X.mg) (q : Str) (cdg : Value) : GivesS X ["_law_work", "_law_found", "e"] "_law_refused" (defScope s_l_refused) T.f_l_refused cdg (defBody s_l_refused) "_law_work" q (TRef Ex.C_NoText Ex.C_NoValue Ex.C_InvalidLetters Ex.C_NoKey) := by
  intro f c' s H Q tl act hc h
  refine ⟨_, pss_cons (ps_set (i := 1) sc_l_refused.nd rfl (Or.inl rfl) pe_non)
    (pss_cons (ps_tryAs (X := (cxOf C8.CX0 X.prog X.w X.K X.mg X.base ["_law_work", "_law_found", "e"] "_law_refused" (defScope s_l_refused) T.f_l_refused cdg X.A X.stack s H C8.E0).nox) (i := 2) (tb := fun W => tDrop fun σZ HZ Q => σZ[0]? = some (some (.ref f)) ∧ HZ c' = some (LamX.CodeO c' q) ∧ tl (WE W σZ) HZ Q)
        (l := [(.ref Ex.C_UnderError, _), (.ref Ex.C_NoKey, _)]) rfl rfl sc_l_refused.nd rfl rfl (fun W pn xe tk _ => pss_one (ps_expr (act W pn xe _ _ tk)))
      (.cons ⟨rfl, by decide, .inl Ex.g_UnderError⟩ (fun a oe cls d pn hz hf => by exact (pss_one (ps_if (PW.pt (pw_and (pt_val (pe_callB (call_isEx hz hf) (by rfl) T.n_isinstance (by decide +kernel) (pa_cons (pv 2) (pa_cons (pe_glob (v := .ref Ex.C_NoText) (by rfl) Ex.g_NoText rfl) pa_nil)))) (pw_and1 (pt_not (pt_val (pe_callB (call_isExT hz hf) (by rfl) T.n_isinstance (by decide +kernel) (pa_cons (pv 2) (pa_cons (pe_tup (pa_cons (pe_glob (v := .ref Ex.C_NoValue) (by rfl) Ex.g_NoValue rfl) (pa_cons (pe_glob (v := .ref Ex.C_InvalidLetters) (by rfl) Ex.g_InvalidLetters rfl) pa_nil))) pa_nil)))))))) (pss_one (ps_set (i := 1) sc_l_refused.nd rfl (Or.inl rfl) (pe_tup (pa_cons pe_str (pa_cons (pe_xf (ExcC.xf Ex.ec_NoText) Ex.tc_NoText.no hz hf (pv 2)) pa_nil)))))
          (pss_one (ps_if (PW.pt (pw_and (pt_val (pe_callB (call_isEx hz hf) (by rfl) T.n_isinstance (by decide +kernel) (pa_cons (pv 2) (pa_cons (pe_glob (v := .ref Ex.C_NoValue) (by rfl) Ex.g_NoValue rfl) pa_nil)))) (pw_and1 (pt_not (pt_val (pe_callB (call_isExT hz hf) (by rfl) T.n_isinstance (by decide +kernel) (pa_cons (pv 2) (pa_cons (pe_tup (pa_cons (pe_glob (v := .ref Ex.C_NoText) (by rfl) Ex.g_NoText rfl) (pa_cons (pe_glob (v := .ref Ex.C_InvalidLetters) (by rfl) Ex.g_InvalidLetters rfl) pa_nil))) pa_nil)))))))) (pss_one (ps_set (i := 1) sc_l_refused.nd rfl (Or.inl rfl) (pe_tup (pa_cons pe_str (pa_cons (pe_xf (ExcC.xf Ex.ec_NoValue) Ex.tc_NoValue.no hz hf (pv 2)) pa_nil)))))
            (pss_one (ps_if (PW.pt (pw_and (pt_val (pe_callB (call_isEx hz hf) (by rfl) T.n_isinstance (by decide +kernel) (pa_cons (pv 2) (pa_cons (pe_glob (v := .ref Ex.C_InvalidLetters) (by rfl) Ex.g_InvalidLetters rfl) pa_nil)))) (pw_and1 (pt_not (pt_val (pe_callB (call_isExT hz hf) (by rfl) T.n_isinstance (by decide +kernel) (pa_cons (pv 2) (pa_cons (pe_tup (pa_cons (pe_glob (v := .ref Ex.C_NoText) (by rfl) Ex.g_NoText rfl) (pa_cons (pe_glob (v := .ref Ex.C_NoValue) (by rfl) Ex.g_NoValue rfl) pa_nil))) pa_nil)))))))) (pss_one (ps_set (i := 1) sc_l_refused.nd rfl (Or.inl rfl) (pe_tup (pa_cons pe_str pa_nil)))) pss_nil)))))))
        (.cons ⟨rfl, by decide, .inl Ex.g_NoKey⟩ (fun a oe cls d pn hz hf => by exact (pss_one (ps_set (i := 1) sc_l_refused.nd rfl (Or.inl rfl) (pe_tup (pa_cons pe_str (pa_cons (pe_xf (ExcC.xf Ex.ec_NoKey) Ex.tc_NoKey.no hz hf (pv 2)) pa_nil)))))) .nil)))
      (pss_one (ps_ret (pv 1)))), ?_⟩
  refine ⟨rfl, hc, h _ _ ?_ (fun v H' hq => ⟨_, rfl, hq⟩)⟩
  rintro cls d H' (⟨dd, v, rfl, rfl, e, k⟩ | ⟨dd, v, rfl, rfl, e, k⟩ | ⟨rfl, rfl, k⟩ | ⟨dd, v, rfl, rfl, e, k⟩)
  · refine ⟨true, Ex.eU_NoText, fun z => Bool.noConfusion z, fun _ a na => ?_⟩
    refine ⟨_, rfl, _, _, _, _, rfl, rfl, .inr ⟨dd, _, rfl, e⟩, Ex.ec_NoText, .own _, Ex.kk_NoText_NoText, _, rfl, iteT ?_⟩
    refine ⟨_, rfl, (by show (2 : Nat) ≤ sizeLine; decide), fun tp ntp => ?_⟩
    have sm : ∀ o, Same H' (upd H' tp o) := fun o => Same.new (Same.refl _) ntp
    refine ⟨_, tp, _, _, _, rfl, upd_same, .cons (.own _) (.cons (.own _) .nil), rfl, .inr ⟨dd, _, rfl, sm _ _ _ e⟩, Ex.ec_NoText, kit2 Ex.kk_NoText_NoValue Ex.kk_NoText_InvalidLetters, _, rfl, iteT ?_⟩
    refine ⟨_, rfl, rfl, rfl, dd, _, v, rfl, sm _ _ _ e, rfl, (by show (2 : Nat) ≤ sizeLine; decide), fun p np => ?_⟩
    exact ⟨_, rfl, k p _ (Same.new (sm _) np) ((sm _).free np) upd_same⟩
  · refine ⟨true, Ex.eU_NoValue, fun z => Bool.noConfusion z, fun _ a na => ?_⟩
    refine ⟨_, rfl, _, _, _, _, rfl, rfl, .inr ⟨dd, _, rfl, e⟩, Ex.ec_NoValue, .own _, Ex.kk_NoValue_NoText, _, rfl, iteF (iteF ?_)⟩
    refine ⟨_, rfl, _, _, _, _, rfl, rfl, .inr ⟨dd, _, rfl, e⟩, Ex.ec_NoValue, .own _, Ex.kk_NoValue_NoValue, _, rfl, iteT ?_⟩
    refine ⟨_, rfl, (by show (2 : Nat) ≤ sizeLine; decide), fun tp ntp => ?_⟩
    have sm : ∀ o, Same H' (upd H' tp o) := fun o => Same.new (Same.refl _) ntp
    refine ⟨_, tp, _, _, _, rfl, upd_same, .cons (.own _) (.cons (.own _) .nil), rfl, .inr ⟨dd, _, rfl, sm _ _ _ e⟩, Ex.ec_NoValue, kit2 Ex.kk_NoValue_NoText Ex.kk_NoValue_InvalidLetters, _, rfl, iteT ?_⟩
    refine ⟨_, rfl, rfl, rfl, dd, _, v, rfl, sm _ _ _ e, rfl, (by show (2 : Nat) ≤ sizeLine; decide), fun p np => ?_⟩
    exact ⟨_, rfl, k p _ (Same.new (sm _) np) ((sm _).free np) upd_same⟩
  · refine ⟨true, Ex.eU_InvalidLetters, fun z => Bool.noConfusion z, fun _ a na => ?_⟩
    refine ⟨_, rfl, _, _, _, _, rfl, rfl, .inl rfl, Ex.ec_InvalidLetters, .own _, Ex.kk_InvalidLetters_NoText, _, rfl, iteF (iteF ?_)⟩
    refine ⟨_, rfl, _, _, _, _, rfl, rfl, .inl rfl, Ex.ec_InvalidLetters, .own _, Ex.kk_InvalidLetters_NoValue, _, rfl, iteF (iteF ?_)⟩
    refine ⟨_, rfl, _, _, _, _, rfl, rfl, .inl rfl, Ex.ec_InvalidLetters, .own _, Ex.kk_InvalidLetters_InvalidLetters, _, rfl, iteT ?_⟩
    refine ⟨_, rfl, (by show (2 : Nat) ≤ sizeLine; decide), fun tp ntp => ?_⟩
    have sm : ∀ o, Same H' (upd H' tp o) := fun o => Same.new (Same.refl _) ntp
    refine ⟨_, tp, _, _, _, rfl, upd_same, .cons (.own _) (.cons (.own _) .nil), rfl, .inl rfl, Ex.ec_InvalidLetters, kit2 Ex.kk_InvalidLetters_NoText Ex.kk_InvalidLetters_NoValue, _, rfl, iteT ?_⟩
    refine ⟨(by show (1 : Nat) ≤ sizeLine; decide), fun p np => ?_⟩
    exact ⟨_, rfl, k p _ (Same.new (sm _) np) ((sm _).free np) upd_same⟩
  · refine ⟨false, Ex.eU_NoKey, fun _ => ⟨true, Ex.eK, fun z => Bool.noConfusion z, fun _ a na => ?_⟩, fun z => Bool.noConfusion z⟩
    refine ⟨_, rfl, rfl, rfl, dd, _, v, rfl, e, rfl, (by show (2 : Nat) ≤ sizeLine; decide), fun p np => ?_⟩
    exact ⟨_, rfl, k p _ (Same.new (Same.refl _) np) np upd_same⟩
end K47
namespace K47
open PySem PySem.Spec PyProof.Rows L2 U
section
variable {P : Program} {w : World} {K : PySem.W.Frag} {mg : Str → Option Value} {base : Heap}
theorem ok_l_put (T : Top K mg) (Ex : Exs P K mg) (So : Sto K mg) : FnOk P w K mg base (L2.CX P w) 6 T.f_l_put T.d_l_put ["_law_store", "_law_key", "_law_value_here"] (spPut So.C Ex.C_NoText Ex.C_NoValue) := by
  have So_set : FnOk P w K mg base (L2.CX P w) 5 So.f_set So.d_set ["self", "at", "worth"] (spPut So.C Ex.C_NoText Ex.C_NoValue) := ok_Sset T Ex So
  refine T.F_l_put.okX sc_l_put (fun vs H Q E h => ?_) (fun cdv A outer s H vs Q E hr h => ?_)
  · obtain ⟨a, t, L, kv, key, val, rfl, _⟩ := h
    rfl
  · obtain ⟨a, t, L, kv, key, val, rfl, hS, hl, h⟩ := h
    refine ⟨_, (pss_one (ps_asg (pv 2) (pg_sub (pv 0) (pv 1) (set_own So.dn_set So.noseq So_set (hr.mono (by decide)) So.b_set (pass_on (takes_of rfl rfl rfl rfl)))))), ?_⟩
    obtain ⟨⟨dx, h1⟩, h2⟩ := id hS
    exact ⟨_, rfl, _, rfl, _, rfl, a, dx, _, rfl, h1, a, t, L, kv, key, val, rfl, hS, hl, h⟩
theorem ok_l_got (T : Top K mg) (Ex : Exs P K mg) (So : Sto K mg) : FnOk P w K mg base (L2.CX P w) 4 T.f_l_got T.d_l_got ["_law_store", "_law_key"] (spGet So.C Ex.C_NoKey) := by
  have So_get : FnOk P w K mg base (L2.CX P w) 2 So.f_get So.d_get ["self", "at"] (spGet So.C Ex.C_NoKey) := ok_Sget T Ex So
  refine T.F_l_got.okX sc_l_got (fun vs H Q E h => ?_) (fun cdv A outer s H vs Q E hr h => ?_)
  · obtain ⟨a, t, L, kv, v, rfl, _⟩ := h
    rfl
  · obtain ⟨a, t, L, kv, v, rfl, hS, h⟩ := h
    refine ⟨_, (pss_one (ps_ret (pe_ixO So.dn_get So.fi_get So_get (hr.mono (by decide)) So.b_get (pass_on (takes_of rfl rfl rfl rfl)) (pv 0) (pv 1)))), ?_⟩
    obtain ⟨⟨dx, h1⟩, h2⟩ := id hS
    exact ⟨_, rfl, _, rfl, a, dx, _, rfl, h1, a, t, L, kv, v, rfl, hS, h⟩
end
end K47
/-! U26: odd keys and values as data; what stays when the deal moves on and code tables grow -/
namespace U
open PySem PySem.Spec PyProof.Rows L2 LamX
/-- one thing that is no thing of the heap -/
inductive Sc : V → PyData → Prop
  | non : Sc .non .none
  | bl (b : Bool) : Sc (.bl b) (.bool b)
  | int (i : Int) : Sc (.int i) (.int i)
  | str (x : Str) : Sc (.str x) (.str x)
/-- such a thing, or a list or tuple of them -/
def Ob (H : Hp) (v : V) (d : PyData) : Prop := Sc v d ∨ ∃ p xs ds, v = .ref p ∧ Paired Sc xs ds ∧ ((H p = some (.lst xs) ∧ d = .list ds) ∨ (H p = some (.tup xs) ∧ d = .tuple ds))
theorem Sc.dp {K : PySem.W.Frag} {H : Hp} {v : V} {d : PyData} (h : Sc v d) : Dp K H v d := by
  cases h
  · exact .non
  · exact .bl _
  · exact .int _
  · exact .str _
theorem scAll {K : PySem.W.Frag} {H : Hp} : ∀ {xs : List V} {ds : List PyData}, Paired Sc xs ds → DpAll K H xs ds
  | _, _, .nil => .nil
  | _, _, .cons a b => .cons a.dp (scAll b)
theorem Ob.dp {K : PySem.W.Frag} {H : Hp} {v : V} {d : PyData} (h : Ob H v d) : Dp K H v d := by
  rcases h with h | ⟨p, xs, ds, rfl, h, ⟨e, rfl⟩ | ⟨e, rfl⟩⟩
  · exact h.dp
  · exact .lst (SqL.of e) (scAll h)
  · exact .tup (SqT.of e) (scAll h)
theorem Ob.mv {H H' : Hp} {v : V} {d : PyData} (h : Ob H v d) (k : ∀ p o, v = .ref p → H p = some o → (∀ ps, o ≠ .tbl ps) → H' p = some o) : Ob H' v d := by
  rcases h with h | ⟨p, xs, ds, rfl, h, ⟨e, rfl⟩ | ⟨e, rfl⟩⟩
  · exact .inl h
  · exact .inr ⟨p, xs, ds, rfl, h, .inl ⟨k p _ rfl e (fun _ z => nomatch z), rfl⟩⟩
  · exact .inr ⟨p, xs, ds, rfl, h, .inr ⟨k p _ rfl e (fun _ z => nomatch z), rfl⟩⟩
theorem Ob.same {H H' : Hp} {v : V} {d : PyData} (h : Ob H v d) (s : Same H H') : Ob H' v d := h.mv fun p o _ e _ => s p o e
def BadK (L : List Nat) (v : V) : Prop := ∀ x, v = .str x → ∃ l, x = S l ∧ l.length ≤ 1000 ∧ within L l = false
def BadV (v : V) : Prop := ∀ i, v = .int i → i < 0
theorem Ob.key {H : Hp} {v : V} {d : PyData} {L : List Nat} (h : Ob H v d) (b : BadK L v) : BadKey H L v := by
  rcases h with h | ⟨p, xs, ds, rfl, h, ⟨e, rfl⟩ | ⟨e, rfl⟩⟩
  · cases h with
    | non => exact .inr (.inl rfl)
    | bl y => exact .inr (.inr (.inl ⟨y, rfl⟩))
    | int i => exact .inr (.inr (.inr (.inl ⟨i, rfl⟩)))
    | str x =>
      obtain ⟨l, rfl, h1, h2⟩ := b x rfl
      exact .inl ⟨l, rfl, h1, h2⟩
  · exact .inr (.inr (.inr (.inr ⟨p, xs, rfl, .inl e⟩)))
  · exact .inr (.inr (.inr (.inr ⟨p, xs, rfl, .inr e⟩)))
theorem Ob.value {H : Hp} {v : V} {d : PyData} (h : Ob H v d) (b : BadV v) : BadVal H v := by
  rcases h with h | ⟨p, xs, ds, rfl, h, ⟨e, rfl⟩ | ⟨e, rfl⟩⟩
  · cases h with
    | non => exact .inr (.inl rfl)
    | bl y => exact .inr (.inr (.inl ⟨y, rfl⟩))
    | int i => exact .inl ⟨i, rfl, b i rfl⟩
    | str x => exact .inr (.inr (.inr (.inl ⟨x, rfl⟩)))
  · exact .inr (.inr (.inr (.inr ⟨p, xs, rfl, .inl e⟩)))
  · exact .inr (.inr (.inr (.inr ⟨p, xs, rfl, .inr e⟩)))
/-- all but the deal and the tables is kept -/
def Kn (a c : Addr) (H H' : Hp) : Prop := ∀ b o, b ≠ a → b ≠ c → (∀ ps, o ≠ .tbl ps) → H b = some o → H' b = some o
theorem Kn.refl (a c : Addr) (H : Hp) : Kn a c H H := fun _ _ _ _ _ h => h
theorem Kn.trans {a c : Addr} {H H1 H2 : Hp} (x : Kn a c H H1) (y : Kn a c H1 H2) : Kn a c H H2 := fun b o h1 h2 h3 h => y b o h1 h2 h3 (x b o h1 h2 h3 h)
theorem Kn.kp {a c : Addr} {H H' : Hp} (k : Kp a c H H') : Kn a c H H' := fun b o h1 h2 _ h => k b o h1 h2 h
theorem Kn.of {a c : Addr} {H H' : Hp} (k : Same H H') : Kn a c H H' := fun b o h1 h2 _ h => k b o h
theorem Kn.ext {a c : Addr} {H H' : Hp} (k : ExtN H H') : Kn a c H H' := fun b o h1 h2 h3 h => k b o h h3
theorem Kn.at {a c p : Addr} {H H' : Hp} {o : HO} (k : Kn a c H H') (d : Deal H a c) (h : H p = some o) (hn : ∀ xs, o ≠ .lst xs) (ht : ∀ ps, o ≠ .tbl ps) : H' p = some o := k _ _ (d.neL h hn).1 (d.neL h hn).2 ht h
theorem StoreAt.kn {H H' : Hp} {C a c b t : Addr} {L : List Nat} {kv : Tab} (x : StoreAt H C b t L kv) (d : Deal H a c) (k : Kn a c H H') : StoreAt H' C b t L kv := by
  obtain ⟨⟨dx, h1⟩, h2⟩ := x
  exact ⟨⟨dx, k.at d h1 (fun _ z => nomatch z) (fun _ z => nomatch z)⟩, k.at d h2 (fun _ z => nomatch z) (fun _ z => nomatch z)⟩
theorem TupsAt.kn {H H' : Hp} {a c : Addr} {ts : List Addr} {l : Tab} (x : TupsAt H ts l) (d : Deal H a c) (k : Kn a c H H') : TupsAt H' ts l := Paired.imp (fun t q h => k.at d h (by intro xs z; cases z) (by intro xs z; cases z)) x
theorem PairsAt.kn {H H' : Hp} {a c p : Addr} {l : Tab} (x : PairsAt H p l) (n1 : p ≠ a) (n2 : p ≠ c) (d : Deal H a c) (k : Kn a c H H') : PairsAt H' p l := by
  obtain ⟨ts, h1, h2⟩ := x
  exact ⟨ts, k _ _ n1 n2 (fun _ z => nomatch z) h1, h2.kn d k⟩
theorem Deal.ext {H H' : Hp} {a c : Addr} (d : Deal H a c) (k : ExtN H H') : Deal H' a c := by
  obtain ⟨ns, m, h⟩ := d
  exact ⟨ns, m, k _ _ h.hd (fun _ z => nomatch z), k _ _ h.cs (fun _ z => nomatch z), h.pos, h.few, h.m0, h.m1⟩
theorem Tabs.mv {T : List (Addr × Str)} {H H' : Hp} (t : Tabs T H) (k : ∀ b o, H b = some o → (∀ xs, o ≠ .lst xs) → H' b = some o) : Tabs T H' := fun p hp => by
  obtain ⟨ps, h1, h2, h3⟩ := t p hp
  refine ⟨ps, k _ _ h1 (fun _ z => nomatch z), h2, fun pos cv hc => ?_⟩
  obtain ⟨c, e1, e2⟩ := h3 pos cv hc
  exact ⟨c, e1, k _ _ e2 (fun _ z => nomatch z)⟩
theorem Tabs.kp {T : List (Addr × Str)} {a c : Addr} {H H' : Hp} (t : Tabs T H) (d : Deal H a c) (k : Kp a c H H') : Tabs T H' := Tabs.mv t fun _ _ h n => k.at d h n
theorem Tabs.same {T : List (Addr × Str)} {H H' : Hp} (t : Tabs T H) (k : Same H H') : Tabs T H' := Tabs.mv t fun _ _ h _ => k _ _ h
/-- an odd key, an odd value: small data, none of the deal's lists -/
structure Odds (H : Hp) (a c : Addr) (v : V) (d : PyData) : Prop where
  ob : Ob H v d
  sm : Sm d 10000 1
  ne : ∀ p, v = .ref p → p ≠ a ∧ p ≠ c
  lay : d.canLay0 = true
theorem Odds.kn {H H' : Hp} {a c : Addr} {v : V} {d : PyData} (x : Odds H a c v d) (k : Kn a c H H') : Odds H' a c v d := ⟨x.ob.mv fun p o e h n => k p o (x.ne p e).1 (x.ne p e).2 n h, x.sm, x.ne, x.lay⟩
def spOddKey : Sp := fun vs H Q _ => ∃ (a c : Addr) (L : List Nat) (z : Nat), vs = [.ref a, .str (S L)] ∧ Deal H a c ∧ Letters L z ∧ 2 ≤ z ∧ z ≤ 5 ∧
  ∀ v d H', BadK L v → Odds H' a c v d → Deal H' a c → Kp a c H H' → Q v H'
def spOddVal : Sp := fun vs H Q _ => ∃ (a c : Addr), vs = [.ref a] ∧ Deal H a c ∧
  ∀ v d H', BadV v → Odds H' a c v d → Deal H' a c → Kp a c H H' → Q v H'
/-! ### letters that are strange -/
def strangers9 : List Nat := [97, 98, 99, 100, 120, 121, 122, 48, 46]
theorem strangers9_S : Str.ofString "abcdxyz0." = S strangers9 := by decide +kernel
theorem strange9 {L : List Nat} (h : L.length ≤ 5) : (strangers9.filter fun c => !decide (c ∈ L)) ≠ [] := by
  intro e
  rw [List.filter_eq_nil_iff] at e
  have := nd_len (l := strangers9) (m := L) (by decide) fun x hx => by
    have := e x hx
    simpa using this
  have h6 : strangers9.length = 9 := rfl
  omega
theorem badS {L l : List Nat} (hl : l.length ≤ 1000) {x : Nat} (h1 : x ∈ l) (h2 : x ∉ L) : BadK L (.str (S l)) := fun y e => by
  cases e
  refine ⟨l, rfl, hl, ?_⟩
  cases hw : within L l with
  | false => rfl
  | true => exact absurd (within_mem hw x h1) h2
theorem Odds.str {H : Hp} {a c : Addr} {l : List Nat} (h : ∀ c ∈ l, c < 1114112) (hl : l.length ≤ 900) : Odds H a c (.str (S l)) (.str (S l)) := ⟨.inl (.str _), (Sm.str h).le (by omega) (by decide), (fun p z => nomatch z), strOk_of h⟩
theorem Odds.non {H : Hp} {a c : Addr} : Odds H a c .non .none := ⟨.inl .non, Sm.non.le (by decide) (by decide), (fun p z => nomatch z), rfl⟩
theorem Odds.bl {H : Hp} {a c : Addr} (b : Bool) : Odds H a c (.bl b) (.bool b) := ⟨.inl (.bl b), (Sm.bl b).le (by decide) (by decide), (fun p z => nomatch z), rfl⟩
theorem Odds.int {H : Hp} {a c : Addr} {i : Int} (h : i.natAbs < 10 ^ 30) : Odds H a c (.int i) (.int i) := ⟨.inl (.int i), (Sm_int30 (Nat.lt_trans h (by decide))).le (by decide) (by decide), (fun p z => nomatch z), rfl⟩
theorem Odds.lst {H : Hp} {a c p : Addr} {x : V} {d : PyData} (e : H p = some (.lst [x])) (hx : Sc x d) (hs : Sm d 9990 0) (hy : d.canLay0 = true) (h1 : p ≠ a) (h2 : p ≠ c) : Odds H a c (.ref p) (.list [d]) :=
  ⟨.inr ⟨p, _, _, rfl, .cons hx .nil, .inl ⟨e, rfl⟩⟩, (Sm.lst (SmAll.cons hs SmAll.nil (Nat.le_refl 0))).le (by omega) (Nat.le_refl _), fun q z => by cases z; exact ⟨h1, h2⟩, by simp [PyData.canLay0, PyData.canLayAll0, hy]⟩
theorem Odds.tup {H : Hp} {a c p : Addr} {x : V} {d : PyData} (e : H p = some (.tup [x])) (hx : Sc x d) (hs : Sm d 9990 0) (hy : d.canLay0 = true) (h1 : p ≠ a) (h2 : p ≠ c) : Odds H a c (.ref p) (.tuple [d]) :=
  ⟨.inr ⟨p, _, _, rfl, .cons hx .nil, .inr ⟨e, rfl⟩⟩, (Sm.tup (SmAll.cons hs SmAll.nil (Nat.le_refl 0))).le (by omega) (Nat.le_refl _), fun q z => by cases z; exact ⟨h1, h2⟩, by simp [PyData.canLay0, PyData.canLayAll0, hy]⟩
theorem Odds.nil {H : Hp} {a c p : Addr} (e : H p = some (.lst [])) (h1 : p ≠ a) (h2 : p ≠ c) : Odds H a c (.ref p) (.list []) :=
  ⟨.inr ⟨p, _, _, rfl, .nil, .inl ⟨e, rfl⟩⟩, (Sm.lst (SmAll.nil (k := 0))).le (by omega) (Nat.le_refl _), fun q z => by cases z; exact ⟨h1, h2⟩, rfl⟩
theorem badref {L : List Nat} {p : Addr} : BadK L (.ref p) := fun _ z => nomatch z
theorem upper1 {x : Nat} (h : x < 128) : Txt.upper (S [x]) = S [PyProof.Rows.up1 x] := by
  rw [PyProof.Rows.upper_ascii (x := S [x]) (fun c hc => by
    rw [S_toList] at hc
    rw [List.mem_singleton.mp hc]
    exact h)]
  show Str.mk (Array.map up1 #[x]) = Str.mk #[up1 x]
  rw [show Array.map up1 #[x] = #[up1 x] from by simp]
end U
namespace K47
open PySem PySem.Spec PyProof.Rows L2 U
section
variable {P : Program} {w : World} {K : PySem.W.Frag} {mg : Str → Option Value} {base : Heap}
theorem ok_l_odd_key (T : Top K mg) : FnOk P w K mg base CX0 4 T.f_l_odd_key T.d_l_odd_key ["_law_deal_here", "_law_letters_here"] spOddKey := by
  have G_pickL : FnOk P w K mg base CX0 2 T.f_l_pick T.d_l_pick ["_law_deal_here", "_law_some"] (spPickL K) := ok_l_pickL T
  refine T.F_l_odd_key.ok sc_l_odd_key (fun vs H Q E h => ?_) (fun cdv A outer s H vs Q E hr h => ?_)
  · obtain ⟨a, c, L, z, rfl, _⟩ := h
    rfl
  · obtain ⟨a, c, L, z, rfl, dl, hLt, hz2, hz5, q⟩ := h
    refine ⟨_, (pss_cons (ps_set (i := 2) sc_l_odd_key.nd rfl (Or.inl rfl) (pe_call G_pickL (hr.mono (by decide)) (by rfl) T.g_l_pick T.F_l_pick.kp T.b_l_pick .nil pass0 (pa_cons (pv 0) (pa_cons (pe_lc (own := [("_law_sign", 4)]) (g := gName 4)  (by rfl) sc_l_odd_key.nd (pi_str pe_str) (blkOk_by (own := [("_law_sign", 4)]) (N := ["_law_deal_here", "_law_letters_here", "_law_other", "_law_some", "_law_sign"]) (sc := defScope s_l_odd_key) (by decide +kernel)) (fun _ _ _ _ _ => pg_name (i := 4) sc_l_odd_key.nd rfl (Or.inl rfl)) (fun _ _ _ _ _ => pts_one (pt_cmpR op_notIn_sign (pv 4) (pv 1) (by rfl))) (fun _ _ _ _ _ => (pv 4))) pa_nil))))
        (pss_cons (ps_set (i := 3) sc_l_odd_key.nd rfl (Or.inl rfl) (pe_lst (pa_cons pe_non (pa_cons pe_int (pa_cons pe_bl (pa_cons (pe_lst (pa_cons (pv 1) pa_nil)) (pa_cons (pe_tup (pa_cons (pe_ix ix_str (pv 1) pe_int (fun _ _ => rfl)) pa_nil)) (pa_cons (pe_op op_add_str (pe_ix ix_str (pv 1) pe_int (fun _ _ => rfl)) (pv 2)) (pa_cons pe_str (pa_cons (pv 2) pa_nil))))))))))
        (pss_one (ps_ret (pe_call G_pickL (hr.mono (by decide)) (by rfl) T.g_l_pick T.F_l_pick.kp T.b_l_pick .nil pass0 (pa_cons (pv 0) (pa_cons (pe_op op_cat (pv 3) (pe_lst (pa_cons (pe_op op_add_str (pe_ix ix_str (pv 1) pe_int (fun _ _ => rfl)) pe_str) (pa_cons pe_str (pa_cons (pe_op op_add_str (pe_upper (pe_ix ix_str (pv 1) pe_int (fun _ _ => rfl))) pe_str) pa_nil))))) pa_nil))))))), ?_⟩
    have hL : ∀ x ∈ L, x < 1114112 := fun x hx => signs_small (hLt.sub x hx)
    have hlen := hLt.len
    have hsub := hLt.sub
    have no : ∀ x, x ∉ U.signs → x ∉ L := fun x h1 h2 => h1 (hsub x h2)
    refine ⟨_, rfl, _, rfl, fun D hD => ?_⟩
    rw [strangers9_S]
    refine lcS (src_str strangers9) (fun x => !decide (sg x ∈ L)) id trivial hD (fun _ => rfl) (by decide) ?_ ?_ ?_
    · intro x hx H' _ Q k
      obtain ⟨y, hy, rfl⟩ := chars_mem hx
      refine ⟨_, rfl, _, rfl, y, _, rfl, rfl, _, rfl, ?_⟩
      rw [S_toList]
      exact k _ (Same.refl _)
    · intro x hx _ H' _ Q k
      exact ⟨_, rfl, k H' (Same.refl _)⟩
    intro H1 s1 eD
    rw [List.map_id, filter_sg] at eD
    have nD := dl.ne hD
    have dl1 := dl.same s1
    refine ⟨a, c, D, _, rfl, dl1, SqL.of eD, nD.1, nD.2, ?_, ?_, fun v H2 hv d2 kp2 => ?_⟩
    · intro e
      exact strange9 (L := L) (by omega) (List.map_eq_nil_iff.mp e)
    · rw [chars, List.length_map]
      exact Nat.le_trans (List.length_filter_le _ _) (by decide)
    obtain ⟨y, hy, rfl⟩ := chars_mem hv
    obtain ⟨hy1, hy2⟩ := List.mem_filter.mp hy
    have hyL : y ∉ L := by simpa using hy2
    have hys : y < 1114112 := by
      have key : ∀ c ∈ strangers9, c < 1114112 := by decide
      exact key y hy1
    clear hv hy hy2 eD hD nD hy1
    have kp02 : Kp a c H H2 := (Same.kp s1).trans kp2
    obtain ⟨x, L', rfl⟩ : ∃ x L', L = x :: L' := by
      cases L with
      | nil => simp at hlen; omega
      | cons x L' => exact ⟨x, L', rfl⟩
    have hx := hL x List.mem_cons_self
    have hx1 := hsub x List.mem_cons_self
    have hszL : (S (x :: L')).length ≤ sizeLine := by rw [S_len, sizeLine_eq]; omega
    refine ⟨_, rfl, (by show (1 : Nat) ≤ sizeLine; decide), fun p1 n1 => ?_⟩
    refine ⟨_, rfl, _, 0, x, rfl, rfl, hszL, (by rw [S_toList]; exact atI_int (by decide) rfl), (by show (1 : Nat) ≤ sizeLine; decide), fun p2 n2 => ?_⟩
    refine ⟨_, rfl, _, 0, x, rfl, rfl, hszL, (by rw [S_toList]; exact atI_int (by decide) rfl), _, rfl, S [x], S [y], rfl, rfl, (by show (2 : Nat) ≤ sizeLine; decide), ?_⟩
    rw [S_app]
    refine ⟨_, rfl, (by show (8 : Nat) ≤ sizeLine; decide), fun p3 n3 => ?_⟩
    have ne1 := d2.ne n1
    have d3 := d2.new (o := .lst [.str (S (x :: L'))]) n1
    have ne2 := d3.ne n2
    have s3 : Same H2 (upd H2 p1 (.lst [.str (S (x :: L'))])) := Same.new (Same.refl _) n1
    have e1 : (upd H2 p1 (.lst [.str (S (x :: L'))])) p1 = some (.lst [.str (S (x :: L'))]) := upd_same
    generalize upd H2 p1 (.lst [.str (S (x :: L'))]) = H3 at *
    have d4 := d3.new (o := .tup [.str (S [x])]) n2
    have s4 : Same H3 (upd H3 p2 (.tup [.str (S [x])])) := Same.new (Same.refl _) n2
    have e2 : (upd H3 p2 (.tup [.str (S [x])])) p2 = some (.tup [.str (S [x])]) := upd_same
    generalize hH4 : upd H3 p2 (.tup [.str (S [x])]) = H4 at d4 s4 e2
    have hH4' : upd H3 p2 (.tup [.str ⟨#[x]⟩]) = H4 := hH4
    rw [hH4'] at n3 ⊢
    have ne3 := d4.ne n3
    generalize hxs : ([_, _, _, _, _, _, _, _] : List V) = xs at n3 ⊢
    have s5 : Same H4 (upd H4 p3 (.lst xs)) := Same.new (Same.refl _) n3
    have e3 : (upd H4 p3 (.lst xs)) p3 = some (.lst xs) := upd_same
    have d5 := d4.same s5
    generalize upd H4 p3 (.lst xs) = H5 at *
    refine ⟨_, rfl, _, rfl, _, rfl, _, 0, x, rfl, rfl, hszL, (by rw [S_toList]; exact atI_int (by decide) rfl), S [x], S [32], rfl, rfl, (by show (2 : Nat) ≤ sizeLine; decide), ?_⟩
    rw [S_app]
    refine ⟨_, rfl, _, 0, x, rfl, rfl, hszL, (by rw [S_toList]; exact atI_int (by decide) rfl), ⟨_, rfl⟩, S [x], rfl, rfl, (by show (1 : Nat) ≤ 5592405; decide), ?_⟩
    rw [upper1 (x := x) (by
      have key : ∀ c ∈ U.signs, decide (c < 128) = true := by rw [signs_eq]; decide
      exact of_decide_eq_true (key x hx1))]
    refine ⟨S [PyProof.Rows.up1 x], S [65], rfl, rfl, (by show (2 : Nat) ≤ sizeLine; decide), ?_⟩
    rw [S_app]
    refine ⟨(by show (3 : Nat) ≤ sizeLine; decide), fun p4 n4 => ?_⟩
    have ne4 := d5.ne n4
    generalize hys2 : ([_, _, _] : List V) = ys at n4 ⊢
    have s6 : Same H5 (upd H5 p4 (.lst ys)) := Same.new (Same.refl _) n4
    have e4 : (upd H5 p4 (.lst ys)) p4 = some (.lst ys) := upd_same
    have d6 := d5.same s6
    generalize upd H5 p4 (.lst ys) = H6 at *
    refine ⟨p3, p4, xs, ys, rfl, rfl, s6 _ _ e3, e4, (by rw [← hxs, ← hys2]; show (11 : Nat) ≤ sizeLine; decide), fun p5 n5 => ?_⟩
    have ne5 := d6.ne n5
    have s7 : Same H6 (upd H6 p5 (.lst (xs ++ ys))) := Same.new (Same.refl _) n5
    have e5 : (upd H6 p5 (.lst (xs ++ ys))) p5 = some (.lst (xs ++ ys)) := upd_same
    have d7 := d6.same s7
    generalize upd H6 p5 (.lst (xs ++ ys)) = H7 at *
    refine ⟨a, c, p5, xs ++ ys, rfl, d7, SqL.of e5, ne5.1, ne5.2, by rw [← hxs]; simp, by rw [← hxs, ← hys2]; simp, fun v H8 hv d8 kp8 => ?_⟩
    have kp : Kp a c H H8 := (kp02.trans (((Same.kp s3).trans (Same.kp s4)).trans (((Same.kp s5).trans (Same.kp s6)).trans (Same.kp s7)))).trans kp8
    have f1 := kp8 _ _ ne1.1 ne1.2 (s7 _ _ (s6 _ _ (s5 _ _ (s4 _ _ e1))))
    have f2 := kp8 _ _ ne2.1 ne2.2 (s7 _ _ (s6 _ _ (s5 _ _ e2)))
    have up : PyProof.Rows.up1 x < 1114112 := by
      have key : ∀ c ∈ U.signs, decide (PyProof.Rows.up1 c < 1114112) = true := by rw [signs_eq]; decide
      exact of_decide_eq_true (key x hx1)
    rw [← hxs, ← hys2] at hv
    simp only [List.mem_append, List.mem_cons, List.not_mem_nil, or_false] at hv
    rcases hv with (rfl | rfl | rfl | rfl | rfl | rfl | rfl | rfl) | rfl | rfl | rfl
    · exact q _ _ _ (fun i e => nomatch e) Odds.non d8 kp
    · exact q _ _ _ (fun i e => nomatch e) (Odds.int (by decide)) d8 kp
    · exact q _ _ _ (fun i e => nomatch e) (Odds.bl _) d8 kp
    · exact q _ _ _ (fun i e => nomatch e) (Odds.lst f1 (.str _) ((Sm.str hL).le (by omega) (by decide)) (strOk_of hL) ne1.1 ne1.2) d8 kp
    · exact q _ _ _ (fun i e => nomatch e) (Odds.tup f2 (.str _) ((Sm.str (l := [x]) (by simpa using hx)).le (by simp) (by decide)) (strOk_of (by simpa using hx)) ne2.1 ne2.2) d8 kp
    · exact q _ _ _ (badS (by simp) (x := y) (by simp) hyL) (Odds.str (by intro c hc; simp at hc; rcases hc with rfl | rfl <;> assumption) (by simp)) d8 kp
    · exact q _ _ _ (badS (l := [64]) (by decide) (x := 64) (by simp) (no _ (by rw [signs_eq]; decide))) (Odds.str (l := [64]) (by decide) (by decide)) d8 kp
    · exact q _ _ _ (badS (l := [y]) (by simp) (x := y) (by simp) hyL) (Odds.str (l := [y]) (by simpa using hys) (by simp)) d8 kp
    · exact q _ _ _ (badS (by simp) (x := 32) (by simp) (no _ (by rw [signs_eq]; decide))) (Odds.str (by intro c hc; simp at hc; rcases hc with rfl | rfl; exact hx; decide) (by simp)) d8 kp
    · exact q _ _ _ (badS (l := [10]) (by decide) (x := 10) (by simp) (no _ (by rw [signs_eq]; decide))) (Odds.str (l := [10]) (by decide) (by decide)) d8 kp
    · exact q _ _ _ (badS (by simp) (x := 65) (by simp) (no _ (by rw [signs_eq]; decide))) (Odds.str (by intro c hc; simp at hc; rcases hc with rfl | rfl; exact up; decide) (by simp)) d8 kp
theorem ok_l_odd_value (T : Top K mg) : FnOk P w K mg base CX0 4 T.f_l_odd_value T.d_l_odd_value ["_law_deal_here"] spOddVal := by
  have G_pickL : FnOk P w K mg base CX0 2 T.f_l_pick T.d_l_pick ["_law_deal_here", "_law_some"] (spPickL K) := ok_l_pickL T
  refine T.F_l_odd_value.ok sc_l_odd_value (fun vs H Q E h => ?_) (fun cdv A outer s H vs Q E hr h => ?_)
  · obtain ⟨a, c, rfl, _⟩ := h
    rfl
  · obtain ⟨a, c, rfl, dl, q⟩ := h
    refine ⟨_, (pss_one (ps_ret (pe_call G_pickL (hr.mono (by decide)) (by rfl) T.g_l_pick T.F_l_pick.kp T.b_l_pick .nil pass0 (pa_cons (pv 0) (pa_cons (pe_lst (pa_cons (pe_un un_neg pe_int) (pa_cons (pe_op op_sub pe_int (pe_op op_pow pe_int pe_int)) (pa_cons pe_non (pa_cons pe_bl (pa_cons pe_bl (pa_cons pe_str (pa_cons pe_str (pa_cons (pe_lst pa_nil) (pa_cons (pe_tup (pa_cons pe_int pa_nil)) (pa_cons (pe_lst (pa_cons pe_int pa_nil)) pa_nil))))))))))) pa_nil))))), ?_⟩
    refine ⟨_, rfl, _, rfl, _, _, rfl, rfl, ⟨by decide, by decide, by decide⟩, _, _, rfl, rfl, Nat.zero_le _, fun p1 n1 => ?_⟩
    refine ⟨(by show (1 : Nat) ≤ sizeLine; decide), fun p2 n2 => ?_⟩
    refine ⟨(by show (1 : Nat) ≤ sizeLine; decide), fun p3 n3 => ?_⟩
    refine ⟨(by show (10 : Nat) ≤ sizeLine; decide), fun p4 n4 => ?_⟩
    have d1 := dl.new (o := .lst []) n1
    have d2 := d1.new (o := .tup [.int 1]) n2
    have d3 := d2.new (o := .lst [.int 0]) n3
    have ne1 := dl.ne n1
    have ne2 := d1.ne n2
    have ne3 := d2.ne n3
    have ne4 := d3.ne n4
    have s1 : Same H (upd H p1 (.lst [])) := Same.new (Same.refl _) n1
    have e1 : (upd H p1 (.lst [])) p1 = some (.lst []) := upd_same
    generalize upd H p1 (.lst []) = H1 at *
    have s2 : Same H1 (upd H1 p2 (.tup [.int 1])) := Same.new (Same.refl _) n2
    have e2 : (upd H1 p2 (.tup [.int 1])) p2 = some (.tup [.int 1]) := upd_same
    generalize upd H1 p2 (.tup [.int 1]) = H2 at *
    have s3 : Same H2 (upd H2 p3 (.lst [.int 0])) := Same.new (Same.refl _) n3
    have e3 : (upd H2 p3 (.lst [.int 0])) p3 = some (.lst [.int 0]) := upd_same
    generalize upd H2 p3 (.lst [.int 0]) = H3 at *
    generalize hxs : ([_, _, _, _, _, _, _, _, _, _] : List V) = xs at n4 ⊢
    have s4 : Same H3 (upd H3 p4 (.lst xs)) := Same.new (Same.refl _) n4
    have e4 : (upd H3 p4 (.lst xs)) p4 = some (.lst xs) := upd_same
    generalize upd H3 p4 (.lst xs) = H4 at *
    have d4 := d3.same s4
    refine ⟨a, c, p4, xs, rfl, d4, SqL.of e4, ne4.1, ne4.2, by rw [← hxs]; simp, by rw [← hxs]; simp, fun v H5 hv d5 kp5 => ?_⟩
    have kp : Kp a c H H5 := (((Same.kp s1).trans (Same.kp s2)).trans ((Same.kp s3).trans (Same.kp s4))).trans kp5
    have f1 := kp5 _ _ ne1.1 ne1.2 (s4 _ _ (s3 _ _ (s2 _ _ e1)))
    have f2 := kp5 _ _ ne2.1 ne2.2 (s4 _ _ (s3 _ _ e2))
    have f3 := kp5 _ _ ne3.1 ne3.2 (s4 _ _ e3)
    rw [← hxs] at hv
    simp only [List.mem_cons, List.not_mem_nil, or_false] at hv
    rcases hv with rfl | rfl | rfl | rfl | rfl | rfl | rfl | rfl | rfl | rfl
    · exact q _ _ _ (fun i e => by cases e; decide) (Odds.int (by decide)) d5 kp
    · exact q _ _ _ (fun i e => by cases e; decide) (Odds.int (by decide)) d5 kp
    · exact q _ _ _ (fun i e => nomatch e) Odds.non d5 kp
    · exact q _ _ _ (fun i e => nomatch e) (Odds.bl _) d5 kp
    · exact q _ _ _ (fun i e => nomatch e) (Odds.bl _) d5 kp
    · exact q _ _ _ (fun i e => nomatch e) (Odds.str (l := [48]) (by decide) (by decide)) d5 kp
    · exact q _ _ _ (fun i e => nomatch e) (Odds.str (l := []) (by decide) (by decide)) d5 kp
    · exact q _ _ _ (fun i e => nomatch e) (Odds.nil f1 ne1.1 ne1.2) d5 kp
    · exact q _ _ _ (fun i e => nomatch e) (Odds.tup f2 (.int 1) ((Sm.int (by decide)).le (by decide) (by decide)) rfl ne2.1 ne2.2) d5 kp
    · exact q _ _ _ (fun i e => nomatch e) (Odds.lst f3 (.int 0) ((Sm.int (by decide)).le (by decide) (by decide)) rfl ne3.1 ne3.2) d5 kp
end
end K47
/-! U27: a def with lambdas: its code object is known -/
namespace U
open PySem PySem.Spec PyProof.Rows L2 LamX
section
variable {P : Program} {w : World} {K : PySem.W.Frag} {mg : Str → Option Value} {base : Heap} {k : Nat} {f c : Addr} {fd : FuncData} {ps : List Str} {sp : Sp}
theorem funG_okC {x qual : Str} {st : Stmt} {N : List Str} (F : Fun K x qual st f fd) (hc : fd.code = .ref c) (Sc : FnScope N ps (defScope st)) (len : ∀ vs H Q E, sp vs H Q E → vs.length = ps.length)
    (body : ∀ (A : Around) (fr : List Env) (s : Shared) (H : Hp) (vs : List V) (Q : VK) (E : XK), RoomG k (A.deeper (envOfC qual (defScope st) s.heap.objs.size f (.ref c))) → sp vs H Q E →
      ∃ t, PSs (cxOf CX0 P w K mg base N qual (defScope st) f (.ref c) A fr s H E).nox (defBody st) t ∧ t { nx := fun _ H' => Q .non H', rt := Q } (start N vs) H) :
    FnG P w K mg base CX0 (k + 1) f fd ps sp := by
  obtain ⟨oc, od, kV, doc, pm, an, cdv, ct, osl, rfl, look, code⟩ := F.ex
  obtain rfl : cdv = .ref c := hc
  refine ⟨len, fun A fr s H args us vs Q E rg e0 hb rel want => ?_⟩
  have hlen := len vs H Q E want
  have kept : ∀ b o, base.get? b = some o → s.heap.get? b = some o := fun b o e => (e0.bs b o e).1
  have KX : K.In s.heap := e0.mod.kin.keeps kept
  have slots : ∀ y ∈ ps.zip us, (defScope st).names.lookup y.1 = some .local ∨ ((defScope st).names.lookup y.1 = some .cell ∧ ((cellsFrom (s.heap.objs.size + 1) (defScope st).names []).lookup y.1).isSome = true) := by
    rintro ⟨n, v⟩ hy
    rcases Sc.par n (List.of_mem_zip hy).1 with q | q
    · left; exact q
    · right; exact ⟨q, PySem.W.cellsFrom_some _ _ _ (.inl q)⟩
  refine codeAny_call_function rg.r.depth (KX _ _ look) rfl Sc.co Sc.gen rfl (PySem.W.codeRec_of KX code) (hb _ _ _ _ ?_)
  refine wpAny_newFunctionEnv_cells Sc.kind slots ?_
  rintro env rfl s1 entered
  refine ⟨(e0.mod.nolimit.keeps kept).keeps entered.toInCall.keep, codeAny_func ?_⟩
  have deep : RoomG k (A.deeper (envOfC qual (defScope st) s.heap.objs.size f (.ref c))) := ⟨rg.r.deeper _, rg.g⟩
  obtain ⟨t, derived, reading⟩ := body A fr s H vs Q E deep want
  have I := inv_start (CX := CX0) (E := E) Sc rg.r.hd e0 hlen rel entered
  refine wpAny_mono (derived.nox.run [] s1 (start N vs) H _ I reading) (fun fl s' after => ?_) fun e s' left => left
  cases fl with
  | brk => obtain ⟨_, _, _, no⟩ := after; exact no.elim
  | cont => obtain ⟨_, _, _, no⟩ := after; exact no.elim
  | ret u =>
    obtain ⟨v, σ', H', J, rv, q⟩ := after
    exact ⟨v, H', J.os, J.bare, J.base, J.hok, rv, q⟩
  | next =>
    obtain ⟨σ', H', J, q⟩ := after
    exact ⟨V.non, H', J.os, J.bare, J.base, J.hok, rfl, q⟩
end
end U
/-! U28: pairs with an odd one among them -/
namespace U
open PySem PySem.Spec PyProof.Rows L2 LamX
theorem cut_dropV (ts : List Addr) (n : Nat) : cutV (ts.map V.ref) (some (n : Int)) none = (ts.drop n).map V.ref := by
  unfold cutV
  rw [HT.sIx_none, HT.sIx_nat, List.map_drop, List.length_map]
  rw [show min n ts.length = min n (ts.map V.ref).length from by rw [List.length_map]]
  by_cases h : n ≤ (ts.map V.ref).length
  · rw [Nat.min_eq_left h]
    exact List.take_of_length_le (by simp)
  · rw [Nat.min_eq_right (by omega), List.drop_length, List.drop_of_length_le (by omega), List.take_nil]
def tSome (K : PySem.W.Frag) : TE := tOp rCat (tOp rCat (tOp rCat (tSl (rSlL K) (tVar 2) tNoPart (tPart (tVar 3))) (tLst (tCons (tTup (tCons (tVar 5) (tCons (tVar 6) tNil))) tNil))) (tSl (rSlL K) (tVar 2) (tPart (tVar 3)) tNoPart)) (tLst (tCons (tTup (tCons (tC .non) (tCons (tC .non) tNil))) tNil))
theorem some_ok {K : PySem.W.Frag} {σ : L2.St} {H : Hp} {Q : VK} {p : Addr} {ts : List Addr} {r : Nat} {key val : V} (h2 : σ[2]? = some (some (.ref p))) (h3 : σ[3]? = some (some (.int (r : Int)))) (h5 : σ[5]? = some (some key)) (h6 : σ[6]? = some (some val))
    (hp : H p = some (.lst (ts.map V.ref))) (hl : ts.length ≤ 1000)
    (k : ∀ u q n H', Same H H' → H u = none → H' u = some (.lst ((ts.take r).map V.ref ++ [.ref q] ++ (ts.drop r).map V.ref ++ [.ref n])) → H' q = some (.tup [key, val]) → H' n = some (.tup [.non, .non]) → H q = none → Q (.ref u) H') : tSome K σ H Q := by
  have hz : ∀ n : Nat, n ≤ 4000 → n ≤ sizeLine := fun n hn => by rw [sizeLine_eq]; omega
  have ht : (ts.take r).length ≤ 1000 := Nat.le_trans (List.length_take_le' _ _) hl
  have hd : (ts.drop r).length ≤ 1000 := Nat.le_trans (by rw [List.length_drop]; omega) hl
  refine ⟨_, h2, _, h3, _, rfl, p, _, rfl, SqL.of hp, fun p1 n1 => ?_⟩
  rw [cut_takeV]
  have s1 : Same H (upd H p1 (.lst ((ts.take r).map V.ref))) := Same.new (Same.refl _) n1
  have e1 : (upd H p1 (.lst ((ts.take r).map V.ref))) p1 = some (.lst ((ts.take r).map V.ref)) := upd_same
  generalize upd H p1 (.lst ((ts.take r).map V.ref)) = H1 at s1 e1 ⊢
  refine ⟨_, h5, _, h6, hz _ (by show (2 : Nat) ≤ 4000; decide), fun q nq => ⟨hz _ (by show (1 : Nat) ≤ 4000; decide), fun p2 n2 => ?_⟩⟩
  have s2 : Same H1 (upd H1 q (.tup [key, val])) := Same.new (Same.refl _) nq
  have eq : (upd H1 q (.tup [key, val])) q = some (.tup [key, val]) := upd_same
  have nq0 : H q = none := s1.free nq
  generalize upd H1 q (.tup [key, val]) = H2 at s2 eq n2 ⊢
  have s3 : Same H2 (upd H2 p2 (.lst [.ref q])) := Same.new (Same.refl _) n2
  have e2 : (upd H2 p2 (.lst [.ref q])) p2 = some (.lst [.ref q]) := upd_same
  generalize upd H2 p2 (.lst [.ref q]) = H3 at s3 e2 ⊢
  refine ⟨p1, p2, _, _, rfl, rfl, s3 _ _ (s2 _ _ e1), e2, hz _ (by rw [List.length_map]; show _ + 1 ≤ _; omega), fun p3 n3 => ?_⟩
  have s4 : Same H3 (upd H3 p3 (.lst ((ts.take r).map V.ref ++ [.ref q]))) := Same.new (Same.refl _) n3
  have e3 : (upd H3 p3 (.lst ((ts.take r).map V.ref ++ [.ref q]))) p3 = some (.lst ((ts.take r).map V.ref ++ [.ref q])) := upd_same
  generalize upd H3 p3 (.lst ((ts.take r).map V.ref ++ [.ref q])) = H4 at s4 e3 ⊢
  have s04 := s1.trans (s2.trans (s3.trans s4))
  refine ⟨_, h2, _, h3, _, rfl, p, _, rfl, SqL.of (s04 _ _ hp), fun p4 n4 => ?_⟩
  rw [cut_dropV]
  have s5 : Same H4 (upd H4 p4 (.lst ((ts.drop r).map V.ref))) := Same.new (Same.refl _) n4
  have e4 : (upd H4 p4 (.lst ((ts.drop r).map V.ref))) p4 = some (.lst ((ts.drop r).map V.ref)) := upd_same
  generalize upd H4 p4 (.lst ((ts.drop r).map V.ref)) = H5 at s5 e4 ⊢
  refine ⟨p3, p4, _, _, rfl, rfl, s5 _ _ e3, e4, hz _ (by simp only [List.length_append, List.length_map, List.length_singleton]; omega), fun p5 n5 => ?_⟩
  have s6 : Same H5 (upd H5 p5 (.lst ((ts.take r).map V.ref ++ [.ref q] ++ (ts.drop r).map V.ref))) := Same.new (Same.refl _) n5
  have e5 : (upd H5 p5 (.lst ((ts.take r).map V.ref ++ [.ref q] ++ (ts.drop r).map V.ref))) p5 = some (.lst ((ts.take r).map V.ref ++ [.ref q] ++ (ts.drop r).map V.ref)) := upd_same
  generalize upd H5 p5 (.lst ((ts.take r).map V.ref ++ [.ref q] ++ (ts.drop r).map V.ref)) = H6 at s6 e5 ⊢
  refine ⟨hz _ (by show (2 : Nat) ≤ 4000; decide), fun n nn => ⟨hz _ (by show (1 : Nat) ≤ 4000; decide), fun p6 n6 => ?_⟩⟩
  have s7 : Same H6 (upd H6 n (.tup [.non, .non])) := Same.new (Same.refl _) nn
  have en : (upd H6 n (.tup [.non, .non])) n = some (.tup [.non, .non]) := upd_same
  generalize upd H6 n (.tup [.non, .non]) = H7 at s7 en n6 ⊢
  have s8 : Same H7 (upd H7 p6 (.lst [.ref n])) := Same.new (Same.refl _) n6
  have e6 : (upd H7 p6 (.lst [.ref n])) p6 = some (.lst [.ref n]) := upd_same
  generalize upd H7 p6 (.lst [.ref n]) = H8 at s8 e6 ⊢
  have s68 := s7.trans s8
  have s28 := s3.trans (s4.trans (s5.trans (s6.trans s68)))
  have s08 := s1.trans (s2.trans s28)
  refine ⟨p5, p6, _, _, rfl, rfl, s68 _ _ e5, e6, hz _ (by simp only [List.length_append, List.length_map, List.length_singleton]; omega), fun u nu => ?_⟩
  have s9 : Same H8 (upd H8 u (.lst ((ts.take r).map V.ref ++ [.ref q] ++ (ts.drop r).map V.ref ++ [.ref n]))) := Same.new (Same.refl _) nu
  exact k u q n _ (s08.trans s9) (s08.free nu) upd_same (s9 _ _ (s28 _ _ eq)) (s9 _ _ (s8 _ _ en)) nq0
/-- what such a list says as data -/
def someD (l : Tab) (r : Nat) (dk dv : PyData) : PyData := .list ((l.take r).map ptD ++ [.tuple [dk, dv]] ++ (l.drop r).map ptD ++ [.tuple [.none, .none]])
theorem dpAll_app {K : PySem.W.Frag} {H : Hp} : ∀ {xs : List V} {ds : List PyData} {ys : List V} {es : List PyData}, DpAll K H xs ds → DpAll K H ys es → DpAll K H (xs ++ ys) (ds ++ es)
  | _, _, _, _, .nil, b => b
  | _, _, _, _, .cons a as, b => .cons a (dpAll_app as b)
theorem TupsAt.drop {H : Hp} : ∀ {ts : List Addr} {l : Tab} (r : Nat), TupsAt H ts l → TupsAt H (ts.drop r) (l.drop r)
  | _, _, 0, x => x
  | _, _, r + 1, .nil => .nil
  | _, _, r + 1, .cons a b => TupsAt.drop r b
structure SomeAt (H : Hp) (u : Addr) (ts : List Addr) (r : Nat) (key val : V) : Prop where
  at_ : ∃ q n, H u = some (.lst ((ts.take r).map V.ref ++ [.ref q] ++ (ts.drop r).map V.ref ++ [.ref n])) ∧ H q = some (.tup [key, val]) ∧ H n = some (.tup [.non, .non])
theorem SomeAt.dp {K : PySem.W.Frag} {H : Hp} {u : Addr} {ts : List Addr} {l : Tab} {r : Nat} {key val : V} {dk dv : PyData} (x : SomeAt H u ts r key val) (t : TupsAt H ts l) (h1 : Ob H key dk) (h2 : Ob H val dv) : Dp K H (.ref u) (someD l r dk dv) := by
  obtain ⟨q, n, e1, e2, e3⟩ := x.at_
  exact .lst (SqL.of e1) (dpAll_app (dpAll_app (dpAll_app (dpTups (t.take r)) (.cons (.tup (SqT.of e2) (.cons h1.dp (.cons h2.dp .nil))) .nil)) (dpTups (TupsAt.drop r t))) (.cons (.tup (SqT.of e3) (.cons .non (.cons .non .nil))) .nil))
theorem layAll_app : ∀ (xs ys : List PyData), PyData.canLayAll0 (xs ++ ys) = (PyData.canLayAll0 xs && PyData.canLayAll0 ys)
  | [], ys => by simp [PyData.canLayAll0]
  | x :: xs, ys => by
    have := layAll_app xs ys
    simp only [List.cons_append, PyData.canLayAll0, this, Bool.and_assoc]
theorem depAll_app : ∀ (xs ys : List PyData), PyData.depthAll (xs ++ ys) = max (PyData.depthAll xs) (PyData.depthAll ys)
  | [], ys => by simp [PyData.depthAll]
  | x :: xs, ys => by
    have := depAll_app xs ys
    simp only [List.cons_append, PyData.depthAll, this]
    omega
theorem someD_ok {L : List Nat} (hL : ∀ c ∈ L, c < 1114112) {n : Nat} {l : Tab} (h : PrsOk L n l) {r : Nat} {dk dv : PyData} (h1 : dk.canLay0 = true) (h2 : dv.canLay0 = true) (g1 : dk.depth ≤ 10) (g2 : dv.depth ≤ 10) : SeqAt.shaped (someD l r dk dv) = true := by
  have a1 := layPairs hL (n := n) (l := l.take r) (fun q hq => h q (List.mem_of_mem_take hq))
  have a2 := layPairs hL (n := n) (l := l.drop r) (fun q hq => h q (List.mem_of_mem_drop hq))
  have b1 := depPairs (l.take r)
  have b2 := depPairs (l.drop r)
  simp only [SeqAt.shaped, someD, PyData.canLay0, layAll_app, PyData.canLayAll0, a1, a2, h1, h2, Bool.and_true, PyData.depth, depAll_app, PyData.depthAll]
  exact decide_eq_true (by omega)
theorem SomeAt.mk' {H : Hp} {u q n : Addr} {ts : List Addr} {r : Nat} {key val : V} (e1 : H u = some (.lst ((ts.take r).map V.ref ++ [.ref q] ++ (ts.drop r).map V.ref ++ [.ref n]))) (e2 : H q = some (.tup [key, val])) (e3 : H n = some (.tup [.non, .non])) : SomeAt H u ts r key val := ⟨q, n, e1, e2, e3⟩
theorem SomeAt.kn {H H' : Hp} {a c u : Addr} {ts : List Addr} {r : Nat} {key val : V} (x : SomeAt H u ts r key val) (d : Deal H a c) (h1 : u ≠ a) (h2 : u ≠ c) (k : Kn a c H H') : SomeAt H' u ts r key val := by
  obtain ⟨q, n, e1, e2, e3⟩ := x.at_
  exact ⟨q, n, k _ _ h1 h2 (fun _ z => nomatch z) e1, k.at d e2 (fun _ z => nomatch z) (fun _ z => nomatch z), k.at d e3 (fun _ z => nomatch z) (fun _ z => nomatch z)⟩
theorem SomeAt.same {H H' : Hp} {u : Addr} {ts : List Addr} {r : Nat} {key val : V} (x : SomeAt H u ts r key val) (k : Same H H') : SomeAt H' u ts r key val := by
  obtain ⟨q, n, e1, e2, e3⟩ := x.at_
  exact ⟨q, n, k _ _ e1, k _ _ e2, k _ _ e3⟩
end U
/-! U29: stores that are refused -/
namespace U
open PySem PySem.Spec PyProof.Rows L2 LamX
/-- what is refused, and how it is told -/
def Due (CT CV : Addr) (L : List Nat) (key val : V) (tg : Str) (w : V) (C' : Addr) : Prop := (tg = "text" ∧ w = key ∧ C' = CT ∧ BadK L key) ∨ (tg = "value" ∧ w = val ∧ C' = CV ∧ ∃ k, key = .str (S k) ∧ k.length ≤ 1000 ∧ within L k = true ∧ BadV val)
theorem makeW {K : PySem.W.Frag} {C CL CT CV C' p q : Addr} {H : Hp} {L : List Nat} {QQ : Addr → VK} {E : XK} {ts : List Addr} {l : Tab} {more : List V} {key val w : V} {dk dv : PyData} {tg : Str} (hp : H p = some (.lst (ts.map V.ref ++ .ref q :: more)) ∨ H p = some (.tup (ts.map V.ref ++ .ref q :: more))) (ht : TupsAt H ts l) (hl : l.length < 10000) (hw : ∀ q ∈ l, q.1.length ≤ 1000 ∧ within L q.1 = true ∧ 0 ≤ q.2)
    (hq : H q = some (.tup [key, val])) (hk : Ob H key dk) (hv : Ob H val dv) (du : Due CT CV L key val tg w C') (hg : good L = true) (hL : L.length ≤ 1000) (hE : ∀ H' d, Same H H' → H d = none → H' d = some (.xd [("value", w)]) → E (.ref C') (some d) H') :
    ∀ x dx, H x = none → H dx = none → dx ≠ x → spInit K C CL CT CV (.ref x :: ([.str (S L), .ref p] ++ [])) (upd (upd H dx (.own x)) x (.ins C dx [])) (QQ x) E := fun x dx nx ndx ne => by
  have s2 : Same H (upd (upd H dx (.own x)) x (.ins C dx [])) := Same.new (Same.new (Same.refl _) ndx) (by rw [upd_ne ne.symm]; exact nx)
  refine ⟨x, dx, .str (S L), p, rfl, upd_same, .inr ⟨L, ts, l, .ref q :: more, rfl, hL, hg, ?_, (ht.same s2).tin, ?_, by rw [ht.len]; exact hl, hw, .inr ⟨.ref q, more, rfl, q, key, val, rfl, ne_of_none hq nx, SqT.of (s2 _ _ hq), ?_⟩⟩⟩
  · rcases hp with hp | hp
    · exact SeqIn.lst (s2 _ _ hp) (ne_of_none hp nx)
    · exact SeqIn.tup (s2 _ _ hp) (ne_of_none hp nx)
  · intro t ht'
    obtain ⟨q, _, e⟩ := ht.at t ht'
    exact ne_of_none e nx
  · have th : ∀ H' d, Kb x (upd (upd H dx (.own x)) x (.ins C dx [])) H' → (upd (upd H dx (.own x)) x (.ins C dx [])) d = none → H' d = some (.xd [("value", w)]) → E (.ref C') (some d) H' := fun H' d kb nd e => hE H' d (fun b o h => kb _ _ (ne_of_none h nx) (s2 _ _ h)) (s2.free nd) e
    rcases du with ⟨rfl, rfl, rfl, bk⟩ | ⟨rfl, rfl, rfl, k, rfl, h1, h2, bv⟩
    · exact .inl ⟨(hk.same s2).key bk, th⟩
    · exact .inr ⟨k, rfl, h1, h2, (hv.same s2).value bv, th⟩
def BadL (v : V) : Prop := ∀ x, v = .str x → ∃ l, x = S l ∧ l.length ≤ 1000 ∧ good l = false
theorem Ob.lets {H : Hp} {v : V} {d : PyData} (h : Ob H v d) (b : BadL v) : (∃ l, v = .str (S l) ∧ l.length ≤ 1000 ∧ good l = false) ∨ NotS H v := by
  rcases h with h | ⟨p, xs, ds, rfl, h, ⟨e, rfl⟩ | ⟨e, rfl⟩⟩
  · cases h with
    | non => exact .inr (.inl rfl)
    | bl y => exact .inr (.inr (.inl ⟨y, rfl⟩))
    | int i => exact .inr (.inr (.inr (.inl ⟨i, rfl⟩)))
    | str x =>
      obtain ⟨l, rfl, h1, h2⟩ := b x rfl
      exact .inl ⟨l, rfl, h1, h2⟩
  · exact .inr (.inr (.inr (.inr ⟨p, xs, rfl, .inl e⟩)))
  · exact .inr (.inr (.inr (.inr ⟨p, xs, rfl, .inr e⟩)))
theorem makeB {K : PySem.W.Frag} {C CL CT CV p : Addr} {H : Hp} {QQ : Addr → VK} {E : XK} {v : V} {d : PyData} (ho : Ob H v d) (hb : BadL v) (hE : ∀ H', Same H H' → E (.ref CL) none H') :
    ∀ x dx, H x = none → H dx = none → dx ≠ x → spInit K C CL CT CV [.ref x, v, .ref p] (upd (upd H dx (.own x)) x (.ins C dx [])) (QQ x) E := fun x dx nx ndx ne => by
  have s2 : Same H (upd (upd H dx (.own x)) x (.ins C dx [])) := Same.new (Same.new (Same.refl _) ndx) (by rw [upd_ne ne.symm]; exact nx)
  exact ⟨x, dx, v, p, rfl, upd_same, .inl ⟨(ho.same s2).lets hb, fun H' s => hE H' (s2.trans s)⟩⟩
theorem badL {l : List Nat} (h1 : l.length ≤ 1000) (h : good l = false) : BadL (.str (S l)) := fun x e => by
  cases e
  exact ⟨l, rfl, h1, h⟩
theorem good_rev {L : List Nat} {z : Nat} (h : Letters L z) (h2 : 2 ≤ z) : good L.reverse = false := by
  have pw : L.reverse.Pairwise (fun a b => b < a) := List.pairwise_reverse.mpr h.asc
  have hl : L.reverse.length = z := by rw [List.length_reverse, h.len]
  generalize L.reverse = R at pw hl
  match R, pw, hl with
  | [], _, hl => simp at hl; omega
  | [_], _, hl => simp at hl; omega
  | y :: x :: r, pw, hl =>
    have hxy : x < y := (List.pairwise_cons.mp pw).1 x List.mem_cons_self
    cases hg : good (y :: x :: r) with
    | false => rfl
    | true =>
      unfold good at hg
      rw [Bool.and_eq_true, Bool.and_eq_true] at hg
      have ha := hg.2.2
      unfold asc at ha
      rw [List.all_eq_true] at ha
      have := of_decide_eq_true (ha 0 (List.mem_range.mpr (by simp)))
      simp at this
      omega
end U
namespace K47
open PySem PySem.Spec PyProof.Rows L2 U
def spPairsR (Tb : List (Addr × Str)) : Sp := fun vs H Q _ => ∃ (a c p : Addr) (L : List Nat) (z : Nat) (l : Tab), vs = [.ref a, .str (S L), .ref p] ∧ Deal H a c ∧ Letters L z ∧ 2 ≤ z ∧ z ≤ 5 ∧ PairsAt H p l ∧ p ≠ a ∧ p ≠ c ∧ PrsOk L 160 l ∧ l.length ≤ 10 ∧ LamX.Tabs Tb H ∧
  ∀ H', Deal H' a c → Kn a c H H' → LamX.Tabs Tb H' → Q (.bl true) H'
theorem ref_givesX {X : Cx} {P : Program} {K : PySem.W.Frag} {mg : Str → Option Value} (T : Top K mg) (Ex : Exs P K mg) (q : Str) (cdg : Value) (hK : X.K = K) (hm : X.mg = mg) : GivesS X ["_law_work", "_law_found", "e"] "_law_refused" (defScope s_l_refused) T.f_l_refused cdg (defBody s_l_refused) "_law_work" q (TRef Ex.C_NoText Ex.C_NoValue Ex.C_InvalidLetters Ex.C_NoKey) := by
  subst hK hm
  exact ref_gives T Ex q cdg
theorem due_ref {CT CV CL CK C' : Addr} {L : List Nat} {key val w : V} {tg : Str} {Q : VK} {H' : Hp} {dd : Addr} (du : Due CT CV L key val tg w C') (e : H' dd = some (.xd [("value", w)])) (k : ∀ p H'', Same H' H'' → H' p = none → H'' p = some (.tup [.str tg, w]) → Q (.ref p) H'') : refE CT CV CL CK Q (.ref C') (some dd) H' := by
  rcases du with ⟨rfl, rfl, rfl, _⟩ | ⟨rfl, rfl, rfl, _⟩
  · exact .inl ⟨dd, _, rfl, rfl, e, k⟩
  · exact .inr (.inl ⟨dd, _, rfl, rfl, e, k⟩)
theorem tagD {CT CV C' : Addr} {L : List Nat} {key val w : V} {tg : Str} (du : Due CT CV L key val tg w C') : ∃ t : List Nat, tg = S t ∧ t.length ≤ 5 ∧ ∀ c ∈ t, c < 1114112 := by
  rcases du with ⟨rfl, _⟩ | ⟨rfl, _⟩
  · exact ⟨[116, 101, 120, 116], rfl, by decide, by decide⟩
  · exact ⟨[118, 97, 108, 117, 101], rfl, by decide, by decide⟩
theorem smTag {t : List Nat} (h1 : t.length ≤ 5) (h2 : ∀ c ∈ t, c < 1114112) {d : PyData} (h : Sm d 10000 1) : Sm (.tuple [.str (S t), d]) 10100 2 :=
  (Sm.tup (SmAll.cons (k := 1) (Sm.str h2) (SmAll.cons (k := 1) h (SmAll.nil (k := 1)) (Nat.le_refl _)) (by decide))).le (by omega) (Nat.le_refl _)
theorem gn_join {i : Nat} {v0 : V} {te : TE} {g : TG} {rest : TS} {D : Ends} {σ σ' : L2.St} {H : Hp} (hσ : σ.set i (some v0) = σ') (F : V → Hp → Prop) (h1 : ∀ Q' : VK, (∀ v H', F v H' → Q' v H') → te σ' H Q') (h2 : ∀ v H', F v H' → g v σ' H' (rest D)) : gName i v0 σ H (tSeq (tAsg te g) rest D) := by
  subst hσ
  exact h1 _ h2
theorem gn_to {i : Nat} {v0 : V} {rest : L2.St → Hp → Prop} {σ σ' : L2.St} {H : Hp} (hσ : σ.set i (some v0) = σ') (h : rest σ' H) : gName i v0 σ H rest := by
  subst hσ
  exact h
section
variable {P : Program} {w : World} {K : PySem.W.Frag} {mg : Str → Option Value} {base : Heap}
theorem ok_l_pairs_right {cc PP : Addr} {Tb : List (Addr × Str)} (T : Top K mg) (Ex : Exs P K mg) (So : Sto K mg) (hc : T.d_l_pairs_right.code = .ref cc) (TB : LamX.TabB base mg cc PP) (hmT : (PP, ("_law_pairs_right.<locals>.<lambda>" : Str)) ∈ Tb) (hu : ∀ p ∈ Tb, p.1 = PP → p.2 = ("_law_pairs_right.<locals>.<lambda>" : Str)) : FnG P w K mg base CX0 12 T.f_l_pairs_right T.d_l_pairs_right ["_law_deal_here", "_law_letters_here", "_law_pairs"] (spPairsR Tb) := by
  have G_l_draw : FnOk P w K mg base CX0 1 T.f_l_draw T.d_l_draw ["_law_deal_here", "_law_many"] spDraw := ok_l_draw T
  have G_pickL : FnOk P w K mg base CX0 2 T.f_l_pick T.d_l_pick ["_law_deal_here", "_law_some"] (spPickL K) := ok_l_pickL T
  have G_l_odd_key : FnOk P w K mg base CX0 4 T.f_l_odd_key T.d_l_odd_key ["_law_deal_here", "_law_letters_here"] spOddKey := ok_l_odd_key T
  have G_l_odd_value : FnOk P w K mg base CX0 4 T.f_l_odd_value T.d_l_odd_value ["_law_deal_here"] spOddVal := ok_l_odd_value T
  have G_l_text : FnOk P w K mg base CX0 3 T.f_l_text T.d_l_text ["_law_deal_here", "_law_letters_here", "_law_most"] spText := ok_l_text T
  have G_l_value : FnOk P w K mg base CX0 2 T.f_l_value T.d_l_value ["_law_deal_here"] spValue := ok_l_value T
  have So_init : FnOk P w K mg base (L2.CX P w) 5 So.f_init So.d_init ["self", "letters", "pairs"] (spInit K So.C Ex.C_InvalidLetters Ex.C_NoText Ex.C_NoValue) := ok_Sinit T Ex So
  refine funG_okC T.F_l_pairs_right hc sc_l_pairs_right (fun vs H Q E h => ?_) (fun A outer s H vs Q E hr h => ?_)
  · obtain ⟨a, c, p, L, z, l, rfl, _⟩ := h
    rfl
  · obtain ⟨a, c, p, L, z, l, rfl, dl, hLt, hz2, hz5, hp, np1, np2, prs, hll, ht, q⟩ := h
    obtain ⟨So_dI2, So_vI2, So_bI2⟩ := So.bI2
    refine ⟨_, (pss_cons (ps_par (i := 3) (j := 4) (by rfl) sc_l_pairs_right.nd rfl rfl (by decide) rfl rfl (pa_cons (pe_call G_l_draw (hr.r.mono (by decide)) (by rfl) T.g_l_draw T.F_l_draw.kp T.b_l_draw .nil pass0 (pa_cons (pv 0) (pa_cons (pe_op op_add (pe_callB call_len_seq (by rfl) T.n_len (by decide +kernel) (pa_cons (pv 2) pa_nil)) pe_int) pa_nil))) (pa_cons (pe_call G_l_draw (hr.r.mono (by decide)) (by rfl) T.g_l_draw T.F_l_draw.kp T.b_l_draw .nil pass0 (pa_cons (pv 0) (pa_cons pe_int pa_nil))) pa_nil)) (by rfl))
        (pss_cons (ps_set (i := 5) sc_l_pairs_right.nd rfl (Or.inl rfl) (pe_ifExp (pt_cmpR op_ne (pv 4) pe_int (nomark _)) (pe_call G_l_odd_key (hr.r.mono (by decide)) (by rfl) T.g_l_odd_key T.F_l_odd_key.kp T.b_l_odd_key .nil pass0 (pa_cons (pv 0) (pa_cons (pv 1) pa_nil))) (pe_call G_l_text (hr.r.mono (by decide)) (by rfl) T.g_l_text T.F_l_text.kp T.b_l_text .nil pass0 (pa_cons (pv 0) (pa_cons (pv 1) (pa_cons pe_int pa_nil))))))
        (pss_cons (ps_set (i := 6) sc_l_pairs_right.nd rfl (Or.inl rfl) (pe_ifExp (pt_cmpR op_ne (pv 4) pe_int (nomark _)) (pe_call G_l_odd_value (hr.r.mono (by decide)) (by rfl) T.g_l_odd_value T.F_l_odd_value.kp T.b_l_odd_value .nil pass0 (pa_cons (pv 0) pa_nil)) (pe_call G_l_value (hr.r.mono (by decide)) (by rfl) T.g_l_value T.F_l_value.kp T.b_l_value .nil pass0 (pa_cons (pv 0) pa_nil))))
        (pss_cons (ps_set (i := 7) sc_l_pairs_right.nd rfl (Or.inr rfl) (pe_op op_cat (pe_op op_cat (pe_op op_cat (pe_slice sl_list (pv 2) po_none (po_some (pv 3))) (pe_lst (pa_cons (pe_tup (pa_cons (pv 5) (pa_cons (pv 6) pa_nil))) pa_nil))) (pe_slice sl_list (pv 2) (po_some (pv 3)) po_none)) (pe_lst (pa_cons (pe_tup (pa_cons pe_non (pa_cons pe_non pa_nil))) pa_nil))))
        (pss_cons (ps_set (i := 8) sc_l_pairs_right.nd rfl (Or.inl rfl) (pe_ifExp (pt_cmpR op_ne (pv 4) pe_int (nomark _)) (pe_tup (pa_cons pe_str (pa_cons (pv 5) pa_nil))) (pe_tup (pa_cons pe_str (pa_cons (pv 6) pa_nil)))))
        (pss_cons (ps_for PassesOwn.never rfl (pi_tup (pe_tup (pa_cons (pv 7) (pa_cons (pe_callTy call_tuple_of (by rfl) T.n_tuple (by decide +kernel) (pa_cons (pv 7) pa_nil)) pa_nil)))) (pg_name (i := 9) sc_l_pairs_right.nd rfl (Or.inr rfl)) (pss_one (ps_if (pt_cmpR op_ne (pe_callB (U.call_reprS hr.g hr.units) (by rfl) T.n_repr (by decide +kernel) (pa_cons (pe_lamS (k := 7) (T := Tb) (a := "_law_work") T.F_l_refused (by rfl) T.g_l_refused T.b_l_refused sc_l_refused rfl (Or.inl rfl) (TT := TRef Ex.C_NoText Ex.C_NoValue Ex.C_InvalidLetters Ex.C_NoKey) (fun cdg => by exact ref_givesX T Ex _ cdg rfl rfl) TB rfl hmT hu (hr.r.mono (by decide)) (by exact LamX.lamS_by (sc := defScope s_l_pairs_right) (by decide +kernel)) (fun A2 outer2 s2 H2 E2 f2 c2 hr2 => (pe_make So.mkS So_init (hr2.mono (by decide)) (by rfl) So.g So.bI3 .nil (pass_on (takes_of rfl rfl rfl rfl)) (pa_cons (pv 1) (pa_cons (pv 9) pa_nil))))) pa_nil)) (pe_callB (U.call_reprS hr.g hr.units) (by rfl) T.n_repr (by decide +kernel) (pa_cons (pv 8) pa_nil)) (nomark _)) (pss_one (ps_ret pe_bl)) pss_nil)))
        (pss_cons (ps_set (i := 10) sc_l_pairs_right.nd rfl (Or.inl rfl) (pe_lst (pa_cons pe_str (pa_cons pe_str (pa_cons pe_str (pa_cons pe_str (pa_cons pe_str (pa_cons pe_str (pa_cons pe_str (pa_cons pe_non (pa_cons pe_int (pa_cons (pe_lst (pa_cons pe_str (pa_cons pe_str pa_nil))) (pa_cons (pe_tup (pa_cons pe_str (pa_cons pe_str pa_nil))) (pa_cons pe_str pa_nil))))))))))))))
        (pss_cons (ps_set (i := 11) sc_l_pairs_right.nd rfl (Or.inr rfl) (pe_call G_pickL (hr.r.mono (by decide)) (by rfl) T.g_l_pick T.F_l_pick.kp T.b_l_pick .nil pass0 (pa_cons (pv 0) (pa_cons (pe_op op_cat (pv 10) (pe_lst (pa_cons (U.pe_revS (pv 1)) pa_nil))) pa_nil))))
        (pss_cons (ps_if (pt_cmpR (op_neD hr.units) (pe_lamS (k := 7) (T := Tb) (a := "_law_work") T.F_l_refused (by rfl) T.g_l_refused T.b_l_refused sc_l_refused rfl (Or.inl rfl) (TT := TRef Ex.C_NoText Ex.C_NoValue Ex.C_InvalidLetters Ex.C_NoKey) (fun cdg => by exact ref_givesX T Ex _ cdg rfl rfl) TB rfl hmT hu (hr.r.mono (by decide)) (by exact LamX.lamS_by (sc := defScope s_l_pairs_right) (by decide +kernel)) (fun A2 outer2 s2 H2 E2 f2 c2 hr2 => (pe_make So.mkS So_init (hr2.mono (by decide)) (by rfl) So.g So.bI3 .nil (pass_on (takes_of rfl rfl rfl rfl)) (pa_cons (pv 11) (pa_cons (pv 7) pa_nil))))) (pe_tup (pa_cons pe_str pa_nil)) (nomark _)) (pss_one (ps_ret pe_bl)) pss_nil)
        (pss_cons (ps_if (pt_cmpR (op_neD hr.units) (pe_lamS (k := 7) (T := Tb) (a := "_law_work") T.F_l_refused (by rfl) T.g_l_refused T.b_l_refused sc_l_refused rfl (Or.inl rfl) (TT := TRef Ex.C_NoText Ex.C_NoValue Ex.C_InvalidLetters Ex.C_NoKey) (fun cdg => by exact ref_givesX T Ex _ cdg rfl rfl) TB rfl hmT hu (hr.r.mono (by decide)) (by exact LamX.lamS_by (sc := defScope s_l_pairs_right) (by decide +kernel)) (fun A2 outer2 s2 H2 E2 f2 c2 hr2 => (pe_make So.mkS So_init (hr2.mono (by decide)) (by rfl) So.g So_bI2 So_vI2 (pass_on (takes_of rfl rfl rfl rfl)) (pa_cons (pv 11) pa_nil)))) (pe_tup (pa_cons pe_str pa_nil)) (nomark _)) (pss_one (ps_ret pe_bl)) pss_nil)
        (pss_one (ps_ret (pe_cmpR (op_eqD hr.units) (pv 7) (pe_op op_cat (pe_op op_cat (pe_op op_cat (pe_slice sl_list (pv 2) po_none (po_some (pv 3))) (pe_lst (pa_cons (pe_tup (pa_cons (pv 5) (pa_cons (pv 6) pa_nil))) pa_nil))) (pe_slice sl_list (pv 2) (po_some (pv 3)) po_none)) (pe_lst (pa_cons (pe_tup (pa_cons pe_non (pa_cons pe_non pa_nil))) pa_nil))) (nomark _)))))))))))))), ?_⟩
    have hL : ∀ x ∈ L, x < 1114112 := fun x hx => signs_small (hLt.sub x hx)
    have hg : good L = true := good_of hLt hz2 hz5
    have hLl : L.length ≤ 1000 := by rw [hLt.len]; omega
    have hLn : L ≠ [] := by intro e; have := hLt.len; rw [e] at this; simp at this; omega
    obtain ⟨ts, hp1, hp2⟩ := id hp
    have htl : ts.length = l.length := hp2.len
    refine ⟨_, rfl, _, rfl, p, _, rfl, .inl (SqL.of hp1), _, _, rfl, rfl, a, c, _, rfl, dl, ?_, ?_, fun r H1 r0 r1 dl1 kp1 => ?_⟩
    · rw [List.length_map]; omega
    · rw [List.length_map]; omega
    obtain ⟨r, rfl⟩ := nat_of r0
    refine ⟨_, rfl, a, c, 3, rfl, dl1, by decide, by decide, fun g H2 g0 g1 dl2 kp2 => ?_⟩
    refine ⟨_, _, rfl, ?_⟩
    have kp02 := kp1.trans kp2
    clear r0 r1 dl1 kp1 kp2
    refine nx_join (F := fun v Hx => ∃ dk, Odds Hx a c v dk ∧ Deal Hx a c ∧ Kp a c H Hx ∧ ((g ≠ 1 ∧ BadK L v) ∨ (g = 1 ∧ ∃ k, v = .str (S k) ∧ k.length ≤ 1000 ∧ within L k = true))) (fun Q' REST => ?_) ?_
    · refine ⟨_, rfl, rfl, _, rfl, ?_⟩
      by_cases hg1 : g = 1
      · subst hg1
        rw [decide_eq_true rfl]
        refine iteF ⟨_, rfl, _, rfl, a, c, L, 3, rfl, dl2, hLn, hLl, by decide, by decide, fun x Hx hx hm dx kpx => ?_⟩
        exact REST _ _ ⟨_, Odds.str (fun c hc => hL c (hm c hc)) (by omega), dx, kp02.trans kpx, .inr ⟨rfl, x, rfl, by omega, within_of hm⟩⟩
      · rw [decide_eq_false (fun e => hg1 (by injection e))]
        refine iteT ⟨_, rfl, _, rfl, a, c, L, z, rfl, dl2, hLt, hz2, hz5, fun v d Hx bk o dx kpx => ?_⟩
        exact REST _ _ ⟨d, o, dx, kp02.trans kpx, .inl ⟨hg1, bk⟩⟩
    rintro key H3 ⟨dk, ok3, dl3, kp3, hkey⟩
    clear dl2 kp02
    refine gn_join (σ' := [some (.ref a), some (.str (S L)), some (.ref p), some (.int r), some (.int g), some key, none, none, none, none, none, none]) rfl (F := fun v Hx => ∃ dv, Odds Hx a c v dv ∧ Odds Hx a c key dk ∧ Deal Hx a c ∧ Kp a c H Hx ∧ (g ≠ 0 → BadV v)) (fun Q' REST => ?_) ?_
    · refine ⟨_, rfl, rfl, _, rfl, ?_⟩
      by_cases hg1 : g = 0
      · subst hg1
        rw [decide_eq_true rfl]
        refine iteF ⟨_, rfl, a, c, rfl, dl3, fun v Hx v0 v1 dx kpx => ?_⟩
        exact REST _ _ ⟨_, Odds.int (by have : (10 : Nat) ^ 18 < 10 ^ 30 := by decide
                                        omega), ok3.kn (Kn.kp kpx), dx, kp3.trans kpx, fun z => absurd rfl z⟩
      · rw [decide_eq_false (fun e => hg1 (by injection e))]
        refine iteT ⟨_, rfl, a, c, rfl, dl3, fun v d Hx bk o dx kpx => ?_⟩
        exact REST _ _ ⟨d, o, ok3.kn (Kn.kp kpx), dx, kp3.trans kpx, fun _ => bk⟩
    rintro val H4 ⟨dv, ov4, ok4, dl4, kp4, hval⟩
    clear ok3 dl3 kp3
    have hp4 := hp.kn np1 np2 dl (Kn.kp kp4)
    have ht4 := Tabs.kp ht dl kp4
    have hp41 : H4 p = some (.lst (ts.map V.ref)) := kp4 _ _ np1 np2 hp1
    have hp42 : TupsAt H4 ts l := hp2.kn dl (Kn.kp kp4)
    have kn4 : Kn a c H H4 := Kn.kp kp4
    clear hp1 hp2 hp4 kp4 ht hp
    refine gn_join (σ' := [some (.ref a), some (.str (S L)), some (.ref p), some (.int r), some (.int g), some key, some val, none, none, none, none, none]) rfl (F := fun v Hx => ∃ u, v = .ref u ∧ SomeAt Hx u ts r key val ∧ Same H4 Hx ∧ H4 u = none) (fun Q' REST => some_ok (K := K) rfl rfl rfl rfl hp41 (by omega) (fun u q n Hx s nu e1 e2 e3 nq => REST _ _ ⟨u, rfl, SomeAt.mk' e1 e2 e3, s, nu⟩)) ?_
    rintro _ H5 ⟨u, rfl, su5, s5, nu⟩
    have nuac := dl4.ne nu
    have dl5 := dl4.same s5
    have ok5 := ok4.kn (Kn.of s5)
    have ov5 := ov4.kn (Kn.of s5)
    have ht5 := Tabs.same ht4 s5
    have kn5 := kn4.trans (Kn.of s5)
    have hp51 := s5 _ _ hp41
    have hp52 := hp42.same s5
    clear dl4 ok4 ov4 ht4 hp41 hp42 kn4 s5 nu
    -- what is due
    refine gn_join (σ' := [some (.ref a), some (.str (S L)), some (.ref p), some (.int r), some (.int g), some key, some val, some (.ref u), none, none, none, none]) rfl (F := fun v Hx => ∃ dd tg w C' dw, v = .ref dd ∧ Hx dd = some (.tup [.str tg, w]) ∧ Due Ex.C_NoText Ex.C_NoValue L key val tg w C' ∧ Odds Hx a c w dw ∧ Same H5 Hx) (fun Q' REST => ?_) ?_
    · refine ⟨_, rfl, rfl, _, rfl, ?_⟩
      by_cases hg1 : g = 1
      · subst hg1
        rw [decide_eq_true rfl]
        refine iteF ⟨_, rfl, (by show (2 : Nat) ≤ sizeLine; decide), fun dd nd => ?_⟩
        have sm : Same H5 (upd H5 dd (.tup [.str "value", val])) := Same.new (Same.refl _) nd
        refine REST _ _ ⟨dd, _, _, _, dv, rfl, upd_same, .inr ⟨rfl, rfl, rfl, ?_⟩, ov5.kn (Kn.of sm), sm⟩
        rcases hkey with ⟨h1, _⟩ | ⟨_, k, rfl, h1, h2⟩
        · exact absurd rfl h1
        · exact ⟨k, rfl, h1, h2, hval (by decide)⟩
      · rw [decide_eq_false (fun e => hg1 (by injection e))]
        refine iteT ⟨_, rfl, (by show (2 : Nat) ≤ sizeLine; decide), fun dd nd => ?_⟩
        have sm : Same H5 (upd H5 dd (.tup [.str "text", key])) := Same.new (Same.refl _) nd
        refine REST _ _ ⟨dd, _, _, _, dk, rfl, upd_same, .inl ⟨rfl, rfl, rfl, ?_⟩, ok5.kn (Kn.of sm), sm⟩
        rcases hkey with ⟨_, h1⟩ | ⟨h1, _⟩
        · exact h1
        · exact absurd h1 hg1
    rintro _ H6 ⟨dd, tg, w', C', dw, rfl, ed6, du, ow6, s6⟩
    have dl6 := dl5.same s6
    have ok6 := ok5.kn (Kn.of s6)
    have ov6 := ov5.kn (Kn.of s6)
    have ht6 := Tabs.same ht5 s6
    have kn6 := kn5.trans (Kn.of s6)
    have hp61 := s6 _ _ hp51
    have hp62 := hp52.same s6
    have su6 := su5.same s6
    clear dl5 ok5 ov5 ht5 hp51 hp52 kn5 s6 su5 hkey hval
    obtain ⟨tt, rfl, ttl, tts⟩ := tagD du
    have smW := smTag ttl tts ow6.sm
    -- the loop
    obtain ⟨q1, n1, eu6, eq6, en6⟩ := id su6.at_
    refine gn_to (σ' := [some (.ref a), some (.str (S L)), some (.ref p), some (.int r), some (.int g), some key, some val, some (.ref u), some (.ref dd), none, none, none]) rfl ?_
    refine ⟨_, rfl, _, rfl, u, _, rfl, .inl ⟨SqL.of eu6, fun pt npt => ?_⟩⟩
    have s7 := Same.new (o := .tup ((ts.take r).map V.ref ++ [.ref q1] ++ (ts.drop r).map V.ref ++ [.ref n1])) (Same.refl H6) npt
    have ept : (upd H6 pt (.tup ((ts.take r).map V.ref ++ [.ref q1] ++ (ts.drop r).map V.ref ++ [.ref n1]))) pt = _ := upd_same
    generalize upd H6 pt (.tup ((ts.take r).map V.ref ++ [.ref q1] ++ (ts.drop r).map V.ref ++ [.ref n1])) = H7 at s7 ept ⊢
    refine ⟨(by show (2 : Nat) ≤ sizeLine; decide), fun td ntd => ?_⟩
    have s8 := Same.new (o := .tup [.ref u, .ref pt]) (Same.refl H7) ntd
    have etd : (upd H7 td (.tup [.ref u, .ref pt])) td = _ := upd_same
    generalize upd H7 td (.tup [.ref u, .ref pt]) = H8 at s8 etd ⊢
    have s68 := s7.trans s8
    have dl8 := dl6.same s68
    have ok8 := ok6.kn (Kn.of s68)
    have ov8 := ov6.kn (Kn.of s68)
    have ow8 := ow6.kn (Kn.of s68)
    have ht8 := Tabs.same ht6 s68
    have kn8 := kn6.trans (Kn.of s68)
    have hp81 := s68 _ _ hp61
    have hp82 := hp62.same s68
    have su8 := su6.same s68
    have ed8 := s68 _ _ ed6
    have eu8 := s68 _ _ eu6
    have eq8 := s68 _ _ eq6
    have ept8 := s8 _ _ ept
    clear dl6 ok6 ov6 ow6 ht6 hp61 hp62 kn6 su6 ed6 eu6 eq6 en6 ept s7 s8 s68 npt ntd
    have hxs : (ts.take r).map V.ref ++ [V.ref q1] ++ (ts.drop r).map V.ref ++ [V.ref n1] = (ts.take r).map V.ref ++ V.ref q1 :: ((ts.drop r).map V.ref ++ [V.ref n1]) := by simp
    rw [hxs] at eu8 ept8
    have hwl : ∀ q ∈ l.take r, q.1.length ≤ 1000 ∧ within L q.1 = true ∧ 0 ≤ q.2 := fun q hq => let ⟨x1, x2, x3, _⟩ := prs q (List.mem_of_mem_take hq); ⟨by omega, x2, x3⟩
    have hwn : (l.take r).length < 10000 := Nat.lt_of_le_of_lt (List.length_take_le' _ _) (by omega)
    refine ⟨td, rfl, ⟨_, SqT.of etd⟩, ?_⟩
    refine for_it (src_tup K td [.ref u, .ref pt]).w (fun i σ H' => ∃ w9 : Option V, σ = [some (.ref a), some (.str (S L)), some (.ref p), some (.int r), some (.int g), some key, some val, some (.ref u), some (.ref dd), w9, none, none] ∧ Deal H' a c ∧ Kn a c H8 H' ∧ LamX.Tabs Tb H')
      ⟨none, rfl, dl8, Kn.refl _ _ _, ht8⟩ (fun i σ H' _ ⟨_, _, _, kn, _⟩ => SqT.of (kn.at dl8 etd (fun _ z => nomatch z) (fun _ z => nomatch z))) ?_ ?_
    · rintro i x σ H9 H9' hi ⟨w9, rfl, dl9, kn9, ht9⟩ ⟨rfl, hx⟩
      obtain ⟨told, rfl, htold⟩ : ∃ told, x = .ref told ∧ (H9' told = some (.lst ((ts.take r).map V.ref ++ V.ref q1 :: ((ts.drop r).map V.ref ++ [V.ref n1]))) ∨ H9' told = some (.tup ((ts.take r).map V.ref ++ V.ref q1 :: ((ts.drop r).map V.ref ++ [V.ref n1])))) := by
        match i, hx with
        | 0, hx =>
          cases hx
          exact ⟨u, rfl, .inl (kn9 _ _ nuac.1 nuac.2 (fun _ z => nomatch z) eu8)⟩
        | 1, hx =>
          cases hx
          exact ⟨pt, rfl, .inr (kn9.at dl8 ept8 (fun _ z => nomatch z) (fun _ z => nomatch z))⟩
        | i + 2, hx => simp at hx
      clear hx
      refine gn_to (σ' := [some (.ref a), some (.str (S L)), some (.ref p), some (.int r), some (.int g), some key, some val, some (.ref u), some (.ref dd), some (.ref told), none, none]) rfl ?_
      refine ⟨ht9, fun H10 eN ht10 E2 Q' hE hQ => ⟨_, rfl, _, rfl, ?_⟩⟩
      have kn10 : Kn a c H8 H10 := kn9.trans (Kn.ext eN)
      have dl10 := dl9.ext eN
      refine makeW (ts := ts.take r) (l := l.take r) (q := q1) (dk := dk) (dv := dv) (htold.imp (fun e => eN _ _ e (fun _ z => nomatch z)) (fun e => eN _ _ e (fun _ z => nomatch z))) ((hp82.kn dl8 kn10).take r) hwn hwl (kn10.at dl8 eq8 (fun _ z => nomatch z) (fun _ z => nomatch z)) (ok8.kn kn10).ob (ov8.kn kn10).ob du hg hLl (fun H' d s n e => hE _ _ _ (due_ref du e (fun pp H'' s2 npp epp => ?_)))
      have s12 := s.trans s2
      have kn12 : Kn a c H8 H'' := kn10.trans (Kn.of s12)
      have D1 : Dp K H'' (.ref pp) (.tuple [.str (S tt), dw]) := .tup (SqT.of epp) (.cons (.str _) (.cons (ow8.kn kn12).ob.dp .nil))
      have D2 : Dp K H'' (.ref dd) (.tuple [.str (S tt), dw]) := .tup (SqT.of (kn12.at dl8 ed8 (fun _ z => nomatch z) (fun _ z => nomatch z))) (.cons (.str _) (.cons (ow8.kn kn12).ob.dp .nil))
      refine ⟨_, _, _, _, rfl, D1, smW, by decide, by decide, _, rfl, _, _, _, _, rfl, D2, smW, by decide, by decide, rfl, _, rfl, ?_⟩
      rw [decide_eq_true rfl]
      exact iteF ⟨_, rfl, dl10.same s12, kn12, Tabs.same ht10 s12⟩
    rintro σ H9 ⟨w9, rfl, dl9, kn9, ht9⟩
    have kn09 : Kn a c H H9 := kn8.trans kn9
    have ok9 := ok8.kn kn9
    have ov9 := ov8.kn kn9
    have su9 := su8.kn dl8 nuac.1 nuac.2 kn9
    have hp91 : H9 p = some (.lst (ts.map V.ref)) := kn9 _ _ np1 np2 (fun _ z => nomatch z) hp81
    have hp92 := hp82.kn dl8 kn9
    clear dl8 ok8 ov8 ow8 ht8 kn8 hp81 hp82 su8 ed8 eu8 eq8 ept8 kn9 etd du
    refine ⟨(by show (2 : Nat) ≤ sizeLine; decide), fun m1 nm1 => ⟨(by show (2 : Nat) ≤ sizeLine; decide), fun m2 nm2 => ⟨(by show (12 : Nat) ≤ sizeLine; decide), fun m3 nm3 => ?_⟩⟩⟩
    have s1 := Same.new (o := .lst [.str "a", .str "b"]) (Same.refl H9) nm1
    have e1 : (upd H9 m1 (.lst [.str "a", .str "b"])) m1 = _ := upd_same
    have ne1 := dl9.ne nm1
    generalize upd H9 m1 (.lst [.str "a", .str "b"]) = G1 at s1 e1 nm2 nm3 ⊢
    have s2 := Same.new (o := .tup [.str "a", .str "b"]) (Same.refl G1) nm2
    have e2 : (upd G1 m2 (.tup [.str "a", .str "b"])) m2 = _ := upd_same
    have ne2 := (dl9.same s1).ne nm2
    generalize upd G1 m2 (.tup [.str "a", .str "b"]) = G2 at s2 e2 nm3 ⊢
    have ne3 := ((dl9.same s1).same s2).ne nm3
    generalize hxs2 : ([_, _, _, _, _, _, _, _, _, _, _, _] : List V) = xs at nm3 ⊢
    have s3 := Same.new (o := .lst xs) (Same.refl G2) nm3
    have e3 : (upd G2 m3 (.lst xs)) m3 = _ := upd_same
    generalize upd G2 m3 (.lst xs) = G3 at s3 e3 ⊢
    have s93 := s1.trans (s2.trans s3)
    have dlG := dl9.same s93
    have e1' := s3 _ _ (s2 _ _ e1)
    have e2' := s3 _ _ e2
    have htG := Tabs.same ht9 s93
    have knG : Kn a c H9 G3 := Kn.of s93
    clear s1 s2 s3 e1 e2 nm1 nm2 nm3 s93 ht9
    show gName 10 (.ref m3) _ _ _
    refine gn_to (σ' := [some (.ref a), some (.str (S L)), some (.ref p), some (.int r), some (.int g), some key, some val, some (.ref u), some (.ref dd), w9, some (.ref m3), none]) rfl ?_
    refine nx_join (F := fun v Hx => ∃ d, Ob Hx v d ∧ (∀ p, v = .ref p → p ≠ a ∧ p ≠ c) ∧ BadL v ∧ Deal Hx a c ∧ Kn a c H9 Hx ∧ LamX.Tabs Tb Hx) (fun Q' REST => ?_) ?_
    · refine ⟨_, rfl, _, rfl, _, rfl, L, rfl, (by rw [sizeLine_eq]; omega), (by show (1 : Nat) ≤ sizeLine; decide), fun m4 nm4 => ?_⟩
      have s4 := Same.new (o := .lst [.str (S L.reverse)]) (Same.refl G3) nm4
      have e4 : (upd G3 m4 (.lst [.str (S L.reverse)])) m4 = _ := upd_same
      generalize upd G3 m4 (.lst [.str (S L.reverse)]) = G4 at s4 e4 ⊢
      refine ⟨m3, m4, xs, _, rfl, rfl, s4 _ _ e3, e4, (by rw [← hxs2]; show (13 : Nat) ≤ sizeLine; decide), fun m5 nm5 => ?_⟩
      have s5 := Same.new (o := .lst (xs ++ [.str (S L.reverse)])) (Same.refl G4) nm5
      have e5 : (upd G4 m5 (.lst (xs ++ [.str (S L.reverse)]))) m5 = _ := upd_same
      have ne5 := (dlG.same s4).ne nm5
      generalize upd G4 m5 (.lst (xs ++ [.str (S L.reverse)])) = G5 at s5 e5 ⊢
      have s35 := s4.trans s5
      refine ⟨a, c, m5, _, rfl, dlG.same s35, SqL.of e5, ne5.1, ne5.2, by simp, by rw [← hxs2]; simp, fun v Hx hv dx kpx => ?_⟩
      have kn' : Kn a c H9 Hx := (knG.trans (Kn.of s35)).trans (Kn.kp kpx)
      have ht' := Tabs.kp (Tabs.same htG s35) (dlG.same s35) kpx
      have f1 := kpx _ _ ne1.1 ne1.2 (s35 _ _ e1')
      have f2 := kpx _ _ ne2.1 ne2.2 (s35 _ _ e2')
      rw [← hxs2] at hv
      simp only [List.mem_append, List.mem_cons, List.not_mem_nil, or_false] at hv
      rcases hv with (rfl | rfl | rfl | rfl | rfl | rfl | rfl | rfl | rfl | rfl | rfl | rfl) | rfl
      · exact REST _ _ ⟨_, .inl (.str _), (fun _ z => nomatch z), badL (l := []) (by decide) (by decide), dx, kn', ht'⟩
      · exact REST _ _ ⟨_, .inl (.str _), (fun _ z => nomatch z), badL (l := [97]) (by decide) (by decide), dx, kn', ht'⟩
      · exact REST _ _ ⟨_, .inl (.str _), (fun _ z => nomatch z), badL (l := [98, 97]) (by decide) (by rw [good]; decide +kernel), dx, kn', ht'⟩
      · exact REST _ _ ⟨_, .inl (.str _), (fun _ z => nomatch z), badL (l := [97, 97, 98]) (by decide) (by rw [good]; decide +kernel), dx, kn', ht'⟩
      · exact REST _ _ ⟨_, .inl (.str _), (fun _ z => nomatch z), badL (l := [97, 98, 99, 100, 101, 102]) (by decide) (by rw [good]; decide +kernel), dx, kn', ht'⟩
      · exact REST _ _ ⟨_, .inl (.str _), (fun _ z => nomatch z), badL (l := [97, 32]) (by decide) (by rw [good]; decide +kernel), dx, kn', ht'⟩
      · exact REST _ _ ⟨_, .inl (.str _), (fun _ z => nomatch z), badL (l := [97, 66]) (by decide) (by rw [good]; decide +kernel), dx, kn', ht'⟩
      · exact REST _ _ ⟨_, .inl .non, (fun _ z => nomatch z), (fun _ z => nomatch z), dx, kn', ht'⟩
      · exact REST _ _ ⟨_, .inl (.int _), (fun _ z => nomatch z), (fun _ z => nomatch z), dx, kn', ht'⟩
      · exact REST _ _ ⟨_, .inr ⟨m1, _, _, rfl, .cons (.str _) (.cons (.str _) .nil), .inl ⟨f1, rfl⟩⟩, (fun p z => by cases z; exact ne1), (fun _ z => nomatch z), dx, kn', ht'⟩
      · exact REST _ _ ⟨_, .inr ⟨m2, _, _, rfl, .cons (.str _) (.cons (.str _) .nil), .inr ⟨f2, rfl⟩⟩, (fun p z => by cases z; exact ne2), (fun _ z => nomatch z), dx, kn', ht'⟩
      · exact REST _ _ ⟨_, .inl (.str _), (fun _ z => nomatch z), badL (l := [97, 64]) (by decide) (by rw [good]; decide +kernel), dx, kn', ht'⟩
      · exact REST _ _ ⟨_, .inl (.str _), (fun _ z => nomatch z), badL (l := L.reverse) (by rw [List.length_reverse]; exact hLl) (good_rev hLt hz2), dx, kn', ht'⟩
    rintro od H11 ⟨dd2, oo, nod, bl, dl11, kn11, ht11⟩
    clear dlG e1' e2' htG knG e3 hxs2
    refine gn_to (σ' := [some (.ref a), some (.str (S L)), some (.ref p), some (.int r), some (.int g), some key, some val, some (.ref u), some (.ref dd), w9, some (.ref m3), some od]) rfl ?_
    refine ⟨ht11, fun H12 eN ht12 E2 Q' hE hQ => ⟨_, rfl, _, rfl, ?_⟩⟩
    refine makeB (d := dd2) (oo.mv fun p o e h n => eN p o h n) bl (fun H' s => hE _ _ _ (.inr (.inr (.inl ⟨rfl, rfl, fun pp H13 s2 npp epp => ?_⟩))))
    refine ⟨(by show (1 : Nat) ≤ sizeLine; decide), fun p2 np2' => ⟨.tuple [.str "letters"], .tuple [.str "letters"], .tup (SqT.of ((Same.new (Same.refl H13) np2') _ _ epp)) (.cons (.str _) .nil), .tup (SqT.of upd_same) (.cons (.str _) .nil), (by decide +kernel), (by decide +kernel), _, rfl, ?_⟩⟩
    rw [PySem.SeqAt.eqv_refl _ (by decide +kernel)]
    refine iteF ?_
    have s3 := (s.trans s2).trans (Same.new (o := .tup [.str "letters"]) (Same.refl H13) np2')
    have dl14 := (dl11.ext eN).same s3
    have ht14 := Tabs.same ht12 s3
    have knx : Kn a c H11 (upd H13 p2 (.tup [.str "letters"])) := (Kn.ext eN).trans (Kn.of s3)
    generalize upd H13 p2 (.tup [.str "letters"]) = H14 at s3 dl14 ht14 knx ⊢
    clear s s2 epp npp np2' hE hQ s3 ht12 eN
    have oo14 : Ob H14 od dd2 := oo.mv fun p o e h n => knx p o (nod p e).1 (nod p e).2 n h
    have kn14 := kn11.trans knx
    clear knx ht11 dl11 oo kn11
    refine ⟨ht14, fun H15 eN ht15 E2 Q' hE hQ => ⟨_, rfl, ?_⟩⟩
    refine makeB (d := dd2) (oo14.mv fun p o e h n => eN p o h n) bl (fun H' s => hE _ _ _ (.inr (.inr (.inl ⟨rfl, rfl, fun pp H16 s2 npp epp => ?_⟩))))
    refine ⟨(by show (1 : Nat) ≤ sizeLine; decide), fun p2 np2' => ⟨.tuple [.str "letters"], .tuple [.str "letters"], .tup (SqT.of ((Same.new (Same.refl H16) np2') _ _ epp)) (.cons (.str _) .nil), .tup (SqT.of upd_same) (.cons (.str _) .nil), (by decide +kernel), (by decide +kernel), _, rfl, ?_⟩⟩
    rw [PySem.SeqAt.eqv_refl _ (by decide +kernel)]
    refine iteF ?_
    have s3 := (s.trans s2).trans (Same.new (o := .tup [.str "letters"]) (Same.refl H16) np2')
    have dl17 := (dl14.ext eN).same s3
    have ht17 := Tabs.same ht15 s3
    have knx : Kn a c H9 (upd H16 p2 (.tup [.str "letters"])) := kn14.trans ((Kn.ext eN).trans (Kn.of s3))
    generalize upd H16 p2 (.tup [.str "letters"]) = H17 at s3 dl17 ht17 knx ⊢
    clear s s2 epp npp np2' hE hQ s3 ht15 eN oo14 kn14 dl14 ht14
    have ok17 := ok9.kn knx
    have ov17 := ov9.kn knx
    have su17 := su9.kn dl9 nuac.1 nuac.2 knx
    have hp171 : H17 p = some (.lst (ts.map V.ref)) := knx _ _ np1 np2 (fun _ z => nomatch z) hp91
    have hp172 := hp92.kn dl9 knx
    have sh := someD_ok hL prs (r := r) ok17.lay ov17.lay (Nat.le_trans ok17.sm.dp (by decide)) (Nat.le_trans ov17.sm.dp (by decide))
    refine ⟨_, rfl, some_ok (K := K) rfl rfl rfl rfl hp171 (by omega) (fun u2 q2 n2 H18 s nu2 e1 e2 e3 nq2 => ?_)⟩
    refine ⟨someD l r dk dv, someD l r dk dv, (su17.same s).dp (hp172.same s) (ok17.ob.same s) (ov17.ob.same s), (SomeAt.mk' e1 e2 e3).dp (hp172.same s) (ok17.ob.same s) (ov17.ob.same s), sh, sh, ?_⟩
    rw [PySem.SeqAt.eqv_refl _ (PySem.SeqAt.canLay_of_shaped sh)]
    exact q H18 (dl17.same s) ((kn09.trans knx).trans (Kn.of s)) (Tabs.same ht17 s)
end
end K47
namespace K47
open PySem PySem.Spec PyProof.Rows L2 U
def spLaw (K : PySem.W.Frag) (cs : List (Addr × Addr)) : Sp := fun vs H Q _ => ∃ (a : Addr) (ns : List Int), vs = [.ref a] ∧ SqL K H a (ns.map V.int) ∧ ns.length ≤ 63 ∧ (∀ p ∈ cs, H p.2 = some (.tbl #[])) ∧ ∀ H', Q (.bl true) H'
theorem tabs0 {H : Hp} {P1 P2 : Addr} {q1 q2 : Str} (h1 : H P1 = some (.tbl #[])) (h2 : H P2 = some (.tbl #[])) : LamX.Tabs [(P1, q1), (P2, q2)] H := fun p hp => by
  rcases List.mem_cons.mp hp with rfl | hp
  · exact ⟨#[], h1, trivial, fun pos cv h => by cases h⟩
  · rw [List.mem_singleton.mp hp]
    exact ⟨#[], h2, trivial, fun pos cv h => by cases h⟩
/-- what holds while the errors are asked for -/
structure Bun (Tb : List (Addr × Str)) (C a c x u : Addr) (L : List Nat) (kv : Tab) (od : V) (dk : PyData) (bd : V) (dv : PyData) (H : Hp) : Prop where
  dl : Deal H a c
  ht : LamX.Tabs Tb H
  st : StoreAt H C x u L kv
  ok : Odds H a c od dk
  ov : Odds H a c bd dv
section
variable {Tb : List (Addr × Str)} {C a c x u : Addr} {L : List Nat} {kv : Tab} {od : V} {dk : PyData} {bd : V} {dv : PyData} {H H' : Hp}
theorem Bun.same (b : Bun Tb C a c x u L kv od dk bd dv H) (s : Same H H') : Bun Tb C a c x u L kv od dk bd dv H' := ⟨b.dl.same s, Tabs.same b.ht s, b.st.same s, b.ok.kn (Kn.of s), b.ov.kn (Kn.of s)⟩
theorem Bun.ext (b : Bun Tb C a c x u L kv od dk bd dv H) (s : LamX.ExtN H H') (t : LamX.Tabs Tb H') : Bun Tb C a c x u L kv od dk bd dv H' := ⟨b.dl.ext s, t, b.st.kn b.dl (Kn.ext s), b.ok.kn (Kn.ext s), b.ov.kn (Kn.ext s)⟩
theorem odd_at {H : Hp} {v : V} {d : PyData} {q : Addr} (h : Ob H v d) (e : v = .ref q) : ∃ o, H q = some o := by
  rcases h with h | ⟨p, xs, ds, rfl, h, ⟨e2, rfl⟩ | ⟨e2, rfl⟩⟩
  · subst e; cases h
  · cases e; exact ⟨_, e2⟩
  · cases e; exact ⟨_, e2⟩
theorem Bun.free (b : Bun Tb C a c x u L kv od dk bd dv H) {p : Addr} (hp : H p = none) : p ≠ a ∧ p ≠ c ∧ (∀ q, od = .ref q → q ≠ p) ∧ ∀ q, bd = .ref q → q ≠ p := by
  refine ⟨(b.dl.ne hp).1, (b.dl.ne hp).2, fun q e => ?_, fun q e => ?_⟩
  · obtain ⟨o, h⟩ := odd_at b.ok.ob e
    exact ne_of_none h hp
  · obtain ⟨o, h⟩ := odd_at b.ov.ob e
    exact ne_of_none h hp
theorem Bun.upd (b : Bun Tb C a c x u L kv od dk bd dv H) {p : Addr} {xs ys : List V} (hp : H p = some (.lst xs)) (n : p ≠ a ∧ p ≠ c ∧ (∀ q, od = .ref q → q ≠ p) ∧ ∀ q, bd = .ref q → q ≠ p) : Bun Tb C a c x u L kv od dk bd dv (L2.upd H p (.lst ys)) := by
  have k : ∀ b o, H b = some o → (∀ xs, o ≠ .lst xs) → (L2.upd H p (.lst ys)) b = some o := fun b o h hn => by
    rw [upd_ne (fun e => by rw [e, hp] at h; cases h; exact hn _ rfl)]
    exact h
  obtain ⟨⟨dx, h1⟩, h2⟩ := b.st
  refine ⟨b.dl.upd n.1 n.2.1, Tabs.mv b.ht k, ⟨⟨dx, k _ _ h1 (fun _ z => nomatch z)⟩, k _ _ h2 (fun _ z => nomatch z)⟩, ⟨b.ok.ob.mv fun q o e h _ => ?_, b.ok.sm, b.ok.ne, b.ok.lay⟩, ⟨b.ov.ob.mv fun q o e h _ => ?_, b.ov.sm, b.ov.ne, b.ov.lay⟩⟩
  · rw [upd_ne (n.2.2.1 q e)]; exact h
  · rw [upd_ne (n.2.2.2 q e)]; exact h
/-- a tuple stays where a list changes -/
theorem tup_upd {H : Hp} {p t : Addr} {xs ys zs : List V} (ht : H t = some (.tup zs)) (hp : H p = some (.lst xs)) : (L2.upd H p (.lst ys)) t = some (.tup zs) := by
  rw [upd_ne (ne_of ht hp (by intro z; cases z))]
  exact ht
end
def lostP (kv : Tab) : V → Bool | .str z => !(getT kv z.cps.toList).isSome | _ => false
theorem lostP_S (kv : Tab) (k : List Nat) : lostP kv (.str (S k)) = !(getT kv k).isSome := rfl
theorem not_key {L : List Nat} {n m : Nat} {kv : Tab} (ok : TabOk L n m kv) {l : List Nat} (h : within L l = false) : getT kv l = none := by
  rw [getT_none]
  intro hm
  obtain ⟨p, hp, rfl⟩ := List.mem_map.mp hm
  obtain ⟨_, h2, _⟩ := ok.ok p hp
  rw [h] at h2
  cases h2
theorem bad_get {H : Hp} {L : List Nat} {n m : Nat} {kv : Tab} {v : V} (ok : TabOk L n m kv) (h : BadKey H L v) : (∃ k, v = .str (S k) ∧ getT kv k = none) ∨ NotS H v := h.imp (fun ⟨l, e, _, w⟩ => ⟨l, e, not_key ok w⟩) id
theorem smTag2 {t : Str} {l : List Nat} (e : t = S l) (h1 : l.length ≤ 5) (h2 : ∀ c ∈ l, c < 1114112) {d : PyData} (h : Sm d 10000 1) : Sm (.tuple [.str t, d]) 10100 2 := by
  subst e
  exact smTag h1 h2 h
section
variable {P : Program} {w : World} {K : PySem.W.Frag} {mg : Str → Option Value} {base : Heap}
theorem ok_law {cc PP cR PR : Addr} (T : Top K mg) (Ex : Exs P K mg) (So : Sto K mg) (hc : T.d_law.code = .ref cc) (TB : LamX.TabB base mg cc PP) (hcR : T.d_l_pairs_right.code = .ref cR) (TBR : LamX.TabB base mg cR PR) (hne : PP ≠ PR) : FnG P w K mg base CX0 13 T.f_law T.d_law ["_law_script"] (spLaw K [(cc, PP), (cR, PR)]) := by
  obtain ⟨Tb, hTb⟩ : ∃ Tb : List (Addr × Str), Tb = [(PP, ("law.<locals>.<lambda>" : Str)), (PR, ("_law_pairs_right.<locals>.<lambda>" : Str))] := ⟨_, rfl⟩
  have hmT : (PP, ("law.<locals>.<lambda>" : Str)) ∈ Tb := by rw [hTb]; exact List.mem_cons_self
  have hmR : (PR, ("_law_pairs_right.<locals>.<lambda>" : Str)) ∈ Tb := by rw [hTb]; exact List.mem_cons_of_mem _ List.mem_cons_self
  have hu : ∀ p ∈ Tb, p.1 = PP → p.2 = ("law.<locals>.<lambda>" : Str) := by
    intro p hp e
    rw [hTb] at hp
    rcases List.mem_cons.mp hp with rfl | hp
    · rfl
    · rw [List.mem_singleton.mp hp] at e
      exact absurd e.symm hne
  have huR : ∀ p ∈ Tb, p.1 = PR → p.2 = ("_law_pairs_right.<locals>.<lambda>" : Str) := by
    intro p hp e
    rw [hTb] at hp
    rcases List.mem_cons.mp hp with rfl | hp
    · exact absurd e hne
    · rw [List.mem_singleton.mp hp]
  have G_l_pairs_right : FnG P w K mg base CX0 12 T.f_l_pairs_right T.d_l_pairs_right ["_law_deal_here", "_law_letters_here", "_law_pairs"] (spPairsR Tb) := ok_l_pairs_right T Ex So hcR TBR hmR huR
  have G_l_deal : FnOk P w K mg base CX0 1 T.f_l_deal T.d_l_deal ["_law_script", "_law_base"] (spDeal K) := ok_l_deal T
  have G_l_draw : FnOk P w K mg base CX0 1 T.f_l_draw T.d_l_draw ["_law_deal_here", "_law_many"] spDraw := ok_l_draw T
  have G_l_letters : FnOk P w K mg base CX0 2 T.f_l_letters T.d_l_letters ["_law_deal_here", "_law_most"] spLetters2 := ok_l_letters T
  have G_l_text : FnOk P w K mg base CX0 3 T.f_l_text T.d_l_text ["_law_deal_here", "_law_letters_here", "_law_most"] spText := ok_l_text T
  have G_l_value : FnOk P w K mg base CX0 2 T.f_l_value T.d_l_value ["_law_deal_here"] spValue := ok_l_value T
  have G_l_odd_key : FnOk P w K mg base CX0 4 T.f_l_odd_key T.d_l_odd_key ["_law_deal_here", "_law_letters_here"] spOddKey := ok_l_odd_key T
  have G_l_odd_value : FnOk P w K mg base CX0 4 T.f_l_odd_value T.d_l_odd_value ["_law_deal_here"] spOddVal := ok_l_odd_value T
  have So_init : FnOk P w K mg base (L2.CX P w) 5 So.f_init So.d_init ["self", "letters", "pairs"] (spInit K So.C Ex.C_InvalidLetters Ex.C_NoText Ex.C_NoValue) := ok_Sinit T Ex So
  have So_in : FnOk P w K mg base CX0 1 So.f_in So.d_in ["self", "x"] (spIn So.C) := ok_Sin T Ex So
  have So_pairs : FnOk P w K mg base CX0 3 So.f_pairs So.d_pairs ["self", "low", "high", "after"] (spPairs So.C) := ok_Spairs T Ex So
  have So_fill : FnOk P w K mg base (L2.CX P w) 4 So.f_fill So.d_fill ["self", "value", "low", "high", "after"] (spFill So.C Ex.C_NoValue) := ok_Sfill T Ex So
  have G_l_put : FnOk P w K mg base (L2.CX P w) 6 T.f_l_put T.d_l_put ["_law_store", "_law_key", "_law_value_here"] (spPut So.C Ex.C_NoText Ex.C_NoValue) := ok_l_put T Ex So
  have G_l_got : FnOk P w K mg base (L2.CX P w) 4 T.f_l_got T.d_l_got ["_law_store", "_law_key"] (spGet So.C Ex.C_NoKey) := ok_l_got T Ex So
  refine funG_okC T.F_law hc sc_law (fun vs H Q E h => ?_) (fun A outer s H vs Q E hr h => ?_)
  · obtain ⟨a, ns, rfl, _⟩ := h
    rfl
  · obtain ⟨s0, ns, rfl, hS0, hlen, htb, q⟩ := h
    obtain ⟨So_dP0, So_vP0, So_bP0⟩ := So.bP0
    obtain ⟨So_dF0, So_vF0, So_bF0⟩ := So.bF0
    refine ⟨_, (pss_cons (ps_set (i := 1) sc_law.nd rfl (Or.inr rfl) (pe_call G_l_deal (hr.r.mono (by decide)) (by rfl) T.g_l_deal T.F_l_deal.kp T.b_l_deal .nil pass0 (pa_cons (pv 0) (pa_cons pe_int pa_nil))))
        (pss_cons (ps_for PassesOwn.never rfl (pi_range1 (by rfl) T.n_range (pa_cons pe_int pa_nil)) (pg_name (i := 2) sc_law.nd rfl (Or.inl rfl)) (pss_cons (ps_set (i := 3) sc_law.nd rfl (Or.inr rfl) (pe_call G_l_letters (hr.r.mono (by decide)) (by rfl) T.g_l_letters T.F_l_letters.kp T.b_l_letters .nil pass0 (pa_cons (pv 1) (pa_cons pe_int pa_nil))))
        (pss_cons (ps_setLc (i := 4) (own := [("_law_again", 14)]) (g := gName 14) (tt := tYes) (by rfl) sc_law.nd rfl rfl (sw_true rfl rfl rfl (by decide +kernel)) (pi_range1 (by rfl) T.n_range (pa_cons (pe_call G_l_draw (hr.r.mono (by decide)) (by rfl) T.g_l_draw T.F_l_draw.kp T.b_l_draw .nil pass0 (pa_cons (pv 1) (pa_cons pe_int pa_nil))) pa_nil)) (blkOk_by (own := [("_law_again", 14)]) (N := ["_law_script", "_law_deal_here", "_law_turn", "_law_letters_here", "_law_pairs", "_law_store", "_law_kept", "_law_key", "_law_value_here", "_law_odd", "_law_bad", "_law_found", "_law_lost", "_law_text_here", "_law_again"]) (sc := defScope s_law) (by decide +kernel)) (fun _ _ _ _ _ => pg_name (i := 14) sc_law.nd rfl (Or.inl rfl)) (fun _ _ _ _ _ => pts_nil) (fun _ _ _ _ _ => (pe_tup (pa_cons (pe_call G_l_text (hr.r.mono (by decide)) (by rfl) T.g_l_text T.F_l_text.kp T.b_l_text .nil pass0 (pa_cons (pv 1) (pa_cons (pv 3) (pa_cons pe_int pa_nil)))) (pa_cons (pe_call G_l_value (hr.r.mono (by decide)) (by rfl) T.g_l_value T.F_l_value.kp T.b_l_value .nil pass0 (pa_cons (pv 1) pa_nil)) pa_nil)))))
        (pss_cons (ps_if (pt_not (pt_val (pe_callG G_l_pairs_right (hr.mono (by decide)) (by rfl) T.g_l_pairs_right T.F_l_pairs_right.kp T.b_l_pairs_right .nil pass0 (pa_cons (pv 1) (pa_cons (pv 3) (pa_cons (pv 4) pa_nil)))))) (pss_one (ps_ret pe_bl)) pss_nil)
        (pss_cons (ps_set (i := 5) sc_law.nd rfl (Or.inr rfl) (pe_make So.mkS So_init (hr.r.mono (by decide)) (by rfl) So.g So.bI3 .nil passL (pa_cons (pv 3) (pa_cons (pv 4) pa_nil))))
        (pss_cons (ps_set (i := 6) sc_law.nd rfl (Or.inl rfl) (pe_callB (U.call_reprS hr.g hr.units) (by rfl) T.n_repr (by decide +kernel) (pa_cons (pe_meth0 (pv 5) So.cl So.m_pairs So_pairs (hr.r.mono (by decide)) So_bP0 So_vP0 pass0) pa_nil)))
        (pss_cons (ps_asg (pe_tup (pa_cons (pe_call G_l_text (hr.r.mono (by decide)) (by rfl) T.g_l_text T.F_l_text.kp T.b_l_text .nil pass0 (pa_cons (pv 1) (pa_cons (pv 3) (pa_cons pe_int pa_nil)))) (pa_cons (pe_call G_l_value (hr.r.mono (by decide)) (by rfl) T.g_l_value T.F_l_value.kp T.b_l_value .nil pass0 (pa_cons (pv 1) pa_nil)) pa_nil))) (pg_tup rfl (pgs_cons (pg_name (i := 7) sc_law.nd rfl (Or.inr rfl)) (pgs_cons (pg_name (i := 8) sc_law.nd rfl (Or.inr rfl)) pgs_nil))))
        (pss_cons (ps_asg (pe_tup (pa_cons (pe_call G_l_odd_key (hr.r.mono (by decide)) (by rfl) T.g_l_odd_key T.F_l_odd_key.kp T.b_l_odd_key .nil pass0 (pa_cons (pv 1) (pa_cons (pv 3) pa_nil))) (pa_cons (pe_call G_l_odd_value (hr.r.mono (by decide)) (by rfl) T.g_l_odd_value T.F_l_odd_value.kp T.b_l_odd_value .nil pass0 (pa_cons (pv 1) pa_nil)) pa_nil))) (pg_tup rfl (pgs_cons (pg_name (i := 9) sc_law.nd rfl (Or.inr rfl)) (pgs_cons (pg_name (i := 10) sc_law.nd rfl (Or.inr rfl)) pgs_nil))))
        (pss_cons (ps_set (i := 11) sc_law.nd rfl (Or.inl rfl) (pe_lst (pa_cons (pe_lamS (k := 7) (T := Tb) (a := "_law_work") T.F_l_refused (by rfl) T.g_l_refused T.b_l_refused sc_l_refused rfl (Or.inl rfl) (TT := TRef Ex.C_NoText Ex.C_NoValue Ex.C_InvalidLetters Ex.C_NoKey) (fun cdg => by exact ref_givesX T Ex _ cdg rfl rfl) TB rfl hmT hu (hr.r.mono (by decide)) (by exact LamX.lamS_by (sc := defScope s_law) (by decide +kernel)) (fun A2 outer2 s2 H2 E2 f2 c2 hr2 => (pe_call G_l_put (hr2.mono (by decide)) (by rfl) T.g_l_put T.F_l_put.kp T.b_l_put .nil (pass_on (takes_of rfl rfl rfl rfl)) (pa_cons (pv 5) (pa_cons (pv 9) (pa_cons (pv 10) pa_nil)))))) pa_nil)))
        (pss_cons (ps_expr (pe_bm PySem.F.plainAttrs_list PySem.F.slot_list_append PySem.F.type_list_append mt_append (pv 11) (pa_cons (pe_lamS (k := 7) (T := Tb) (a := "_law_work") T.F_l_refused (by rfl) T.g_l_refused T.b_l_refused sc_l_refused rfl (Or.inl rfl) (TT := TRef Ex.C_NoText Ex.C_NoValue Ex.C_InvalidLetters Ex.C_NoKey) (fun cdg => by exact ref_givesX T Ex _ cdg rfl rfl) TB rfl hmT hu (hr.r.mono (by decide)) (by exact LamX.lamS_by (sc := defScope s_law) (by decide +kernel)) (fun A2 outer2 s2 H2 E2 f2 c2 hr2 => (pe_call G_l_put (hr2.mono (by decide)) (by rfl) T.g_l_put T.F_l_put.kp T.b_l_put .nil (pass_on (takes_of rfl rfl rfl rfl)) (pa_cons (pv 5) (pa_cons (pv 9) (pa_cons (pv 8) pa_nil)))))) pa_nil)))
        (pss_cons (ps_expr (pe_bm PySem.F.plainAttrs_list PySem.F.slot_list_append PySem.F.type_list_append mt_append (pv 11) (pa_cons (pe_lamS (k := 7) (T := Tb) (a := "_law_work") T.F_l_refused (by rfl) T.g_l_refused T.b_l_refused sc_l_refused rfl (Or.inl rfl) (TT := TRef Ex.C_NoText Ex.C_NoValue Ex.C_InvalidLetters Ex.C_NoKey) (fun cdg => by exact ref_givesX T Ex _ cdg rfl rfl) TB rfl hmT hu (hr.r.mono (by decide)) (by exact LamX.lamS_by (sc := defScope s_law) (by decide +kernel)) (fun A2 outer2 s2 H2 E2 f2 c2 hr2 => (pe_call G_l_put (hr2.mono (by decide)) (by rfl) T.g_l_put T.F_l_put.kp T.b_l_put .nil (pass_on (takes_of rfl rfl rfl rfl)) (pa_cons (pv 5) (pa_cons (pv 7) (pa_cons (pv 10) pa_nil)))))) pa_nil)))
        (pss_cons (ps_if (pt_cmpR op_ne (pe_callB (U.call_reprS hr.g hr.units) (by rfl) T.n_repr (by decide +kernel) (pa_cons (pv 11) pa_nil)) (pe_callB (U.call_reprS hr.g hr.units) (by rfl) T.n_repr (by decide +kernel) (pa_cons (pe_lst (pa_cons (pe_tup (pa_cons pe_str (pa_cons (pv 9) pa_nil))) (pa_cons (pe_tup (pa_cons pe_str (pa_cons (pv 9) pa_nil))) (pa_cons (pe_tup (pa_cons pe_str (pa_cons (pv 10) pa_nil))) pa_nil)))) pa_nil)) (nomark _)) (pss_one (ps_ret pe_bl)) pss_nil)
        (pss_cons (ps_if (pt_cmpR op_ne (pe_callB (U.call_reprS hr.g hr.units) (by rfl) T.n_repr (by decide +kernel) (pa_cons (pe_lamS (k := 7) (T := Tb) (a := "_law_work") T.F_l_refused (by rfl) T.g_l_refused T.b_l_refused sc_l_refused rfl (Or.inl rfl) (TT := TRef Ex.C_NoText Ex.C_NoValue Ex.C_InvalidLetters Ex.C_NoKey) (fun cdg => by exact ref_givesX T Ex _ cdg rfl rfl) TB rfl hmT hu (hr.r.mono (by decide)) (by exact LamX.lamS_by (sc := defScope s_law) (by decide +kernel)) (fun A2 outer2 s2 H2 E2 f2 c2 hr2 => (pe_meth (pv 5) So.cl So.m_fill So_fill (hr2.mono (by decide)) So_bF0 So_vF0 (pass_on (takes_of rfl rfl rfl rfl)) (pa_cons (pv 10) (pa_cons pe_str (pa_cons pe_non pa_nil)))))) pa_nil)) (pe_callB (U.call_reprS hr.g hr.units) (by rfl) T.n_repr (by decide +kernel) (pa_cons (pe_tup (pa_cons pe_str (pa_cons (pv 10) pa_nil))) pa_nil)) (nomark _)) (pss_one (ps_ret pe_bl)) pss_nil)
        (pss_cons (ps_if (pt_cmpR op_ne (pe_callB (U.call_reprS hr.g hr.units) (by rfl) T.n_repr (by decide +kernel) (pa_cons (pe_lamS (k := 7) (T := Tb) (a := "_law_work") T.F_l_refused (by rfl) T.g_l_refused T.b_l_refused sc_l_refused rfl (Or.inl rfl) (TT := TRef Ex.C_NoText Ex.C_NoValue Ex.C_InvalidLetters Ex.C_NoKey) (fun cdg => by exact ref_givesX T Ex _ cdg rfl rfl) TB rfl hmT hu (hr.r.mono (by decide)) (by exact LamX.lamS_by (sc := defScope s_law) (by decide +kernel)) (fun A2 outer2 s2 H2 E2 f2 c2 hr2 => (pe_methN (pv 5) So.cl So.m_fill So_fill (hr2.mono (by decide)) So.k_fill (pass_on (takes_of rfl rfl rfl rfl)) (pa_cons (pv 10) (pa_cons (pv 7) (pa_cons (pv 7) pa_nil))) (pk_cons (pv 7) pk_nil)))) pa_nil)) (pe_callB (U.call_reprS hr.g hr.units) (by rfl) T.n_repr (by decide +kernel) (pa_cons (pe_tup (pa_cons pe_str (pa_cons (pv 10) pa_nil))) pa_nil)) (nomark _)) (pss_one (ps_ret pe_bl)) pss_nil)
        (pss_cons (ps_if (PW.pt (pw_or (pt_cmpR op_ne (pe_callB (U.call_reprS hr.g hr.units) (by rfl) T.n_repr (by decide +kernel) (pa_cons (pe_lamS (k := 7) (T := Tb) (a := "_law_work") T.F_l_refused (by rfl) T.g_l_refused T.b_l_refused sc_l_refused rfl (Or.inl rfl) (TT := TRef Ex.C_NoText Ex.C_NoValue Ex.C_InvalidLetters Ex.C_NoKey) (fun cdg => by exact ref_givesX T Ex _ cdg rfl rfl) TB rfl hmT hu (hr.r.mono (by decide)) (by exact LamX.lamS_by (sc := defScope s_law) (by decide +kernel)) (fun A2 outer2 s2 H2 E2 f2 c2 hr2 => (pe_call G_l_got (hr2.mono (by decide)) (by rfl) T.g_l_got T.F_l_got.kp T.b_l_got .nil (pass_on (takes_of rfl rfl rfl rfl)) (pa_cons (pv 5) (pa_cons (pv 9) pa_nil))))) pa_nil)) (pe_callB (U.call_reprS hr.g hr.units) (by rfl) T.n_repr (by decide +kernel) (pa_cons (pe_tup (pa_cons pe_str (pa_cons (pv 9) pa_nil))) pa_nil)) (nomark _)) (pw_or1 (pt_cmpR op_ne (pe_callB (U.call_reprS hr.g hr.units) (by rfl) T.n_repr (by decide +kernel) (pa_cons (pe_meth0 (pv 5) So.cl So.m_pairs So_pairs (hr.r.mono (by decide)) So_bP0 So_vP0 pass0) pa_nil)) (pv 6) (nomark _))))) (pss_one (ps_ret pe_bl)) pss_nil)
        (pss_cons (ps_setLc (i := 12) (own := [("_law_text_here", 13)]) (g := gName 13)  (by rfl) sc_law.nd rfl rfl (sw_true rfl rfl rfl (by decide +kernel)) (pi_tup (pe_tup (pa_cons pe_str (pa_cons (pe_ix ix_str (pv 3) pe_int (fun _ _ => rfl)) (pa_cons (pe_ix ix_str (pv 3) pe_int (fun _ _ => rfl)) (pa_cons (pe_op U.op_mul_str (pe_ix ix_str (pv 3) pe_int (fun _ _ => rfl)) pe_int) pa_nil)))))) (blkOk_by (own := [("_law_text_here", 13)]) (N := ["_law_script", "_law_deal_here", "_law_turn", "_law_letters_here", "_law_pairs", "_law_store", "_law_kept", "_law_key", "_law_value_here", "_law_odd", "_law_bad", "_law_found", "_law_lost", "_law_text_here", "_law_again"]) (sc := defScope s_law) (by decide +kernel)) (fun _ _ _ _ _ => pg_name (i := 13) sc_law.nd rfl (Or.inl rfl)) (fun _ _ _ _ _ => pts_one (pt_cmpR (op_notInO So.dn_in So_in (hr.r.mono (by decide)) So.b_in pass0) (pv 13) (pv 5) (by rfl))) (fun _ _ _ _ _ => (pv 13)))
        (pss_one (ps_for PassesOwn.never rfl (pi_list (pv 12)) (pg_name (i := 13) sc_law.nd rfl (Or.inr rfl)) (pss_one (ps_if (pt_cmpR op_ne (pe_callB (U.call_reprS hr.g hr.units) (by rfl) T.n_repr (by decide +kernel) (pa_cons (pe_lamS (k := 7) (T := Tb) (a := "_law_work") T.F_l_refused (by rfl) T.g_l_refused T.b_l_refused sc_l_refused rfl (Or.inl rfl) (TT := TRef Ex.C_NoText Ex.C_NoValue Ex.C_InvalidLetters Ex.C_NoKey) (fun cdg => by exact ref_givesX T Ex _ cdg rfl rfl) TB rfl hmT hu (hr.r.mono (by decide)) (by exact LamX.lamS_by (sc := defScope s_law) (by decide +kernel)) (fun A2 outer2 s2 H2 E2 f2 c2 hr2 => (pe_call G_l_got (hr2.mono (by decide)) (by rfl) T.g_l_got T.F_l_got.kp T.b_l_got .nil (pass_on (takes_of rfl rfl rfl rfl)) (pa_cons (pv 5) (pa_cons (pv 13) pa_nil))))) pa_nil)) (pe_callB (U.call_reprS hr.g hr.units) (by rfl) T.n_repr (by decide +kernel) (pa_cons (pe_tup (pa_cons pe_str (pa_cons (pv 13) pa_nil))) pa_nil)) (nomark _)) (pss_one (ps_ret pe_bl)) pss_nil))))))))))))))))))))
        (pss_one (ps_ret pe_bl)))), ?_⟩
    have ht0 : LamX.Tabs Tb H := by
      rw [hTb]
      exact tabs0 (htb (cc, PP) List.mem_cons_self) (htb (cR, PR) (List.mem_cons_of_mem _ List.mem_cons_self))
    refine ⟨_, rfl, s0, ns, 0, rfl, hS0, hlen, by decide, by decide, fun a c H1 s1 na nc dl1 => ?_⟩
    have ht1 := Tabs.same ht0 s1
    show gName 1 (.ref a) _ _ _
    refine gn_to (σ' := [some (.ref s0), some (.ref a), none, none, none, none, none, none, none, none, none, none, none, none, none]) rfl ?_
    refine ⟨6, rfl, by decide, by decide, ?_⟩
    refine for_it (src_range 0 6).w (fun i σ H' => ∃ v2 v3 v4 v5 v6 v7 v8 v9 v10 v11 v12 v13 v14, σ = [some (.ref s0), some (.ref a), v2, v3, v4, v5, v6, v7, v8, v9, v10, v11, v12, v13, v14] ∧ Deal H' a c ∧ LamX.Tabs Tb H')
      ⟨_, _, _, _, _, _, _, _, _, _, _, _, _, rfl, dl1, ht1⟩ (fun _ _ _ _ _ => trivial) ?_ (fun σ H' _ => q _)
    rintro i kk σ H2 H2' hi ⟨v2, v3, v4, v5, v6, v7, v8, v9, v10, v11, v12, v13, v14, rfl, dl2, ht2⟩ ⟨rfl, hv⟩
    clear hv hi dl1 ht1 ht0 htb hS0 s1 na nc
    -- letters
    refine ⟨_, rfl, a, c, 5, rfl, dl2, by decide, by decide, fun L H3 hL2 dl3 kp3 => ?_⟩
    obtain ⟨z, hz2, hz5, hLt⟩ := hL2
    have hz5' : z ≤ 5 := by omega
    have hg : good L = true := good_of hLt hz2 hz5'
    have hLl : L.length ≤ 1000 := by rw [hLt.len]; omega
    have hLne : L ≠ [] := fun e => by have := hLt.len; rw [e] at this; simp at this; omega
    have hL : ∀ x ∈ L, x < 1114112 := fun x hx => signs_small (hLt.sub x hx)
    have ht3 := Tabs.kp ht2 dl2 kp3
    clear dl2 ht2 kp3
    -- the pairs
    refine ⟨_, rfl, a, c, 6, rfl, dl3, by decide, by decide, fun m H4 m0 m1 dl4 kp4 => ?_⟩
    obtain ⟨m, rfl⟩ := nat_of m0
    have ht4 := Tabs.kp ht3 dl3 kp4
    refine ⟨(m : Int), rfl, by omega, by omega, fun D hD => ?_⟩
    have nD := dl4.ne hD
    refine lcG (src_range 0 ((m : Int)).toNat) (fun i ys H' => Deal H' a c ∧ Kp a c H4 H' ∧ ∃ (ts : List Addr) (l : Tab), ys = ts.map V.ref ∧ TupsAt H' ts l ∧ l.length = i ∧ PrsOk L 100 l) (fun _ => rfl) ?_ ⟨dl4.new hD, (Kp.refl _ _ _).new hD, [], [], rfl, .nil, rfl, fun _ h => nomatch h⟩ (fun _ _ _ _ => trivial) ?_ ?_
    · rw [rngV_len]; omega
    · rintro j x ys H6 hx hj hD6 ⟨dl6, kp6, ts, l, rfl, ht, hl, hp⟩ Q k
      refine ⟨_, rfl, _, rfl, a, c, L, 3, rfl, dl6, hLne, hLl, by decide, by decide, fun x H7 x1 x2 dl7 kp7 => ?_⟩
      refine ⟨_, rfl, a, c, rfl, dl7, fun v H8 v0 v1 dl8 kp8 => ⟨(by show (2 : Nat) ≤ sizeLine; decide), fun r nr => ?_⟩⟩
      have kp68 := kp7.trans kp8
      have hD8 := kp68 _ _ nD.1 nD.2 hD6
      have nrD : r ≠ D := (ne_of_none hD8 nr).symm
      have ht8 := ht.kp dl6 kp68
      have nr2 := dl8.ne nr
      refine k _ _ (by rw [upd_ne nrD.symm]; exact hD8) ⟨(dl8.new nr).upd nD.1 nD.2, (((kp6.trans kp68).new' nr).new hD), ts ++ [r], l ++ [(x, v)], by simp, ?_, by simp [hl], ?_⟩
      · refine TupsAt.upd (ys := ts.map V.ref) (TupsAt.snoc (ht8.same (Same.new (Same.refl _) nr)) upd_same) (by rw [upd_ne nrD.symm]; exact hD8)
      · intro q hq
        rcases List.mem_append.mp hq with hq | hq
        · exact hp q hq
        · rw [List.mem_singleton.mp hq]
          exact ⟨by show x.length ≤ 100; omega, within_of x2, v0, v1⟩
    rintro ys H6 hy hD6 ⟨dl6, kp6, ts, l, rfl, htu, hl, hp⟩
    rw [rngV_len] at hl
    have hlm : l.length ≤ 6 := by rw [hl]; simp; omega
    have ht6 := Tabs.kp ht4 dl4 kp6
    have hp160 : PrsOk L 160 l := fun q hq => let ⟨x1, x2⟩ := hp q hq; ⟨by omega, x2⟩
    clear kp6 hy dl4 ht4 hD dl3 ht3 kp4
    show gName 4 (.ref D) _ _ _
    refine gn_to (σ' := [some (.ref s0), some (.ref a), some kk, some (.str (S L)), some (.ref D), v5, v6, v7, v8, v9, v10, v11, v12, v13, v14]) rfl ?_
    refine ⟨_, rfl, _, rfl, _, rfl, a, c, D, L, z, l, rfl, dl6, hLt, hz2, hz5', ⟨ts, hD6, htu⟩, nD.1, nD.2, hp160, by omega, ht6, fun H7 dl7 kn7 ht7 => ⟨_, rfl, iteF ?_⟩⟩
    have hD7 : H7 D = some (.lst (ts.map V.ref)) := kn7 _ _ nD.1 nD.2 (fun _ z => nomatch z) hD6
    have htu7 := htu.kn dl6 kn7
    clear kn7 dl6 ht6 htu hD6
    -- the store
    have lw : ∀ q ∈ l, q.1.length ≤ 1000 ∧ within L q.1 = true ∧ 0 ≤ q.2 := fun q hq => let ⟨x1, x2, x3, _⟩ := hp q hq; ⟨by omega, x2, x3⟩
    refine ⟨_, rfl, _, rfl, ?_⟩
    refine makeP (p := D) (ts := ts) (l := l) (.inl hD7) htu7 (by omega) lw hg hLl (fun x u H8 s8 nx nu st8 => ?_)
    have dl8 := dl7.same s8
    have ht8 := Tabs.same ht7 s8
    have hkv := merge_ok hp160 (TabOk.nil L 160 0)
    rw [Nat.zero_add] at hkv
    have hkv : TabOk L 160 10 (mergeT [] l) := hkv.mono (Nat.le_refl _) (by omega)
    generalize mergeT [] l = kv at st8 hkv
    have hkl : kv.length ≤ 10 := hkv.few
    clear dl7 ht7 hD7 htu7 s8 nx nu
    show gName 5 (.ref x) _ _ _
    refine gn_to (σ' := [some (.ref s0), some (.ref a), some kk, some (.str (S L)), some (.ref D), some (.ref x), v6, v7, v8, v9, v10, v11, v12, v13, v14]) rfl ?_
    have wok : PrsOk L 160 (pairsT kv (spotsT kv [] none none)) := pairsT_prs (fun k hk => spots_mem hk) hkv.ok
    have wll : (pairsT kv (spotsT kv [] none none)).length ≤ 160 := by rw [pairsT_len]; have := spots_len kv [] none none; omega
    obtain ⟨⟨dxx, gx⟩, gu⟩ := id st8
    refine ⟨_, rfl, x, dxx, _, rfl, gx, rfl, x, u, L, kv, [], none, none, rfl, st8, by omega, fun p9 H9 s9 n9 e9 => ?_⟩
    refine ⟨_, _, 300000, 2, rfl, dpPairs e9, smList hL wok wll, by decide, by decide, ?_⟩
    obtain ⟨kept, hkept⟩ : ∃ kept, kept = PyData.shown (.list ((pairsT kv (spotsT kv [] none none)).map ptD)) := ⟨_, rfl⟩
    rw [← hkept]
    have st9 := st8.same s9
    have dl9 := dl8.same s9
    have ht9 := Tabs.same ht8 s9
    clear st8 dl8 ht8 s9 e9 n9 gx gu
    show gName 6 (.str kept) _ _ _
    refine gn_to (σ' := [some (.ref s0), some (.ref a), some kk, some (.str (S L)), some (.ref D), some (.ref x), some (.str kept), v7, v8, v9, v10, v11, v12, v13, v14]) rfl ?_
    -- a key, a value
    refine ⟨_, rfl, _, rfl, a, c, L, 3, rfl, dl9, hLne, hLl, by decide, by decide, fun k H10 k1 k2 dl10 kp10 => ?_⟩
    refine ⟨_, rfl, a, c, rfl, dl10, fun v H11 w0 w1 dl11 kp11 => ⟨(by show (2 : Nat) ≤ sizeLine; decide), fun tk ntk => ⟨tk, _, rfl, SqT.of upd_same, rfl, _, _, rfl, _, _, rfl, rfl, ?_⟩⟩⟩
    have kp911 := kp10.trans kp11
    have st11 := st9.kp dl9 kp911
    have ht11 := Tabs.kp ht9 dl9 kp911
    have s12 := Same.new (o := .tup [.str (S k), .int v]) (Same.refl H11) ntk
    have dl12 := dl11.same s12
    have st12 := st11.same s12
    have ht12 := Tabs.same ht11 s12
    have hk3 : k.length ≤ 3 := by omega
    have hkw : within L k = true := within_of k2
    generalize upd H11 tk (.tup [.str (S k), .int v]) = H12 at dl12 st12 ht12 ⊢
    clear st9 dl9 ht9 kp10 kp11 kp911 st11 ht11 s12 dl10 dl11 k1 ntk
    -- an odd key, an odd value
    refine ⟨_, rfl, _, rfl, a, c, L, z, rfl, dl12, hLt, hz2, hz5', fun od dk H13 bk ok13 dl13 kp13 => ?_⟩
    refine ⟨_, rfl, a, c, rfl, dl13, fun bd dv H14 bv ov14 dl14 kp14 => ⟨(by show (2 : Nat) ≤ sizeLine; decide), fun tq ntq => ⟨tq, _, rfl, SqT.of upd_same, rfl, _, _, rfl, _, _, rfl, rfl, ?_⟩⟩⟩
    have B14 : Bun Tb So.C a c x u L kv od dk bd dv H14 := ⟨dl14, Tabs.kp (Tabs.kp ht12 dl12 kp13) dl13 kp14, (st12.kp dl12 kp13).kp dl13 kp14, ok13.kn (Kn.kp kp14), ov14⟩
    have B := B14.same (Same.new (o := .tup [od, bd]) (Same.refl H14) ntq)
    generalize upd H14 tq (.tup [od, bd]) = H15 at B ⊢
    clear B14 dl14 ov14 kp14 dl13 kp13 ok13 dl12 st12 ht12 ntq
    -- three are refused
    refine ⟨B.ht, fun H16 eN ht16 E2 Q' hE hQ => ?_⟩
    have B16 := B.ext eN ht16
    refine ⟨_, rfl, _, rfl, _, rfl, x, u, L, kv, od, bd, rfl, B16.st, by omega, .inr (.inl ⟨B16.ok.ob.key bk, fun H' dx s n e => hE _ _ _ (.inl ⟨dx, od, rfl, rfl, e, fun p1 H17 s2 np1 e1 => ?_⟩)⟩)⟩
    have B17 := B16.same (s.trans s2)
    clear hE hQ ht16 eN B B16 s s2 n e np1
    refine ⟨(by show (1 : Nat) ≤ sizeLine; decide), fun fl nfl => ?_⟩
    have fr := B17.free nfl
    have s18 := Same.new (o := .lst [.ref p1]) (Same.refl H17) nfl
    have efl : (upd H17 fl (.lst [.ref p1])) fl = some (.lst [.ref p1]) := upd_same
    generalize upd H17 fl (.lst [.ref p1]) = H18 at s18 efl ⊢
    have B18 := B17.same s18
    have e1 := s18 _ _ e1
    clear B17 s18 nfl
    refine ⟨_, rfl, .inl ⟨rfl, _, SqL.of efl⟩, B18.ht, fun H19 eN ht19 E2 Q' hE hQ => ?_⟩
    have B19 := B18.ext eN ht19
    refine ⟨_, rfl, _, rfl, _, rfl, x, u, L, kv, od, _, rfl, B19.st, by omega, .inr (.inl ⟨B19.ok.ob.key bk, fun H' dx s n e => hE _ _ _ (.inl ⟨dx, od, rfl, rfl, e, fun p2 H20 s2 np2 e2 => ?_⟩)⟩)⟩
    have B20 := B19.same (s.trans s2)
    have e1 := s2 _ _ (s _ _ (eN _ _ e1 (fun _ z => nomatch z)))
    have efl := s2 _ _ (s _ _ (eN _ _ efl (fun _ z => nomatch z)))
    clear hE hQ ht19 eN B18 B19 s s2 n e np2
    refine ⟨fl, _, _, rfl, rfl, efl, (by show (1 : Nat) < sizeLine; decide), ?_⟩
    have B21 := B20.upd (ys := [.ref p1] ++ [.ref p2]) efl fr
    have e1 := tup_upd (ys := [.ref p1] ++ [.ref p2]) e1 efl
    have e2 := tup_upd (ys := [.ref p1] ++ [.ref p2]) e2 efl
    have efl : (upd H20 fl (.lst ([.ref p1] ++ [.ref p2]))) fl = some (.lst [.ref p1, .ref p2]) := upd_same
    generalize upd H20 fl (.lst ([.ref p1] ++ [.ref p2])) = H21 at B21 e1 e2 efl ⊢
    clear B20
    refine ⟨_, rfl, .inl ⟨rfl, _, SqL.of efl⟩, B21.ht, fun H22 eN ht22 E2 Q' hE hQ => ?_⟩
    have B22 := B21.ext eN ht22
    refine ⟨_, rfl, _, rfl, _, rfl, x, u, L, kv, _, bd, rfl, B22.st, by omega, .inr (.inr ⟨k, rfl, by omega, hkw, B22.ov.ob.value bv, fun H' dx s n e => hE _ _ _ (.inr (.inl ⟨dx, bd, rfl, rfl, e, fun p3 H23 s2 np3 e3 => ?_⟩))⟩)⟩
    have B23 := B22.same (s.trans s2)
    have e1 := s2 _ _ (s _ _ (eN _ _ e1 (fun _ z => nomatch z)))
    have e2 := s2 _ _ (s _ _ (eN _ _ e2 (fun _ z => nomatch z)))
    have efl := s2 _ _ (s _ _ (eN _ _ efl (fun _ z => nomatch z)))
    clear hE hQ ht22 eN B21 B22 s s2 n e np3
    refine ⟨fl, _, _, rfl, rfl, efl, (by show (2 : Nat) < sizeLine; decide), ?_⟩
    have B24 := B23.upd (ys := [.ref p1, .ref p2] ++ [.ref p3]) efl fr
    have e1 := tup_upd (ys := [.ref p1, .ref p2] ++ [.ref p3]) e1 efl
    have e2 := tup_upd (ys := [.ref p1, .ref p2] ++ [.ref p3]) e2 efl
    have e3 := tup_upd (ys := [.ref p1, .ref p2] ++ [.ref p3]) e3 efl
    have efl : (upd H23 fl (.lst ([.ref p1, .ref p2] ++ [.ref p3]))) fl = some (.lst [.ref p1, .ref p2, .ref p3]) := upd_same
    generalize upd H23 fl (.lst ([.ref p1, .ref p2] ++ [.ref p3])) = H24 at B24 e1 e2 e3 efl ⊢
    clear B23
    have smT : Sm (.tuple [.str "text", dk]) 10100 2 := smTag2 (l := [116, 101, 120, 116]) rfl (by decide) (by decide) B24.ok.sm
    have smV : Sm (.tuple [.str "value", dv]) 10100 2 := smTag2 (l := [118, 97, 108, 117, 101]) rfl (by decide) (by decide) B24.ov.sm
    have smF : Sm (.list [.tuple [.str "text", dk], .tuple [.str "text", dk], .tuple [.str "value", dv]]) 40000 3 := (Sm.lst (SmAll.cons (k := 2) smT (SmAll.cons (k := 2) smT (SmAll.cons (k := 2) smV (SmAll.nil (k := 2)) (Nat.le_refl _)) (Nat.le_refl _)) (Nat.le_refl _))).le (by omega) (Nat.le_refl _)
    have DT : ∀ (Hx : Hp) (p : Addr), Bun Tb So.C a c x u L kv od dk bd dv Hx → Hx p = some (.tup [.str "text", od]) → Dp K Hx (.ref p) (.tuple [.str "text", dk]) := fun Hx p b e => .tup (SqT.of e) (.cons (.str _) (.cons b.ok.ob.dp .nil))
    have DV : ∀ (Hx : Hp) (p : Addr), Bun Tb So.C a c x u L kv od dk bd dv Hx → Hx p = some (.tup [.str "value", bd]) → Dp K Hx (.ref p) (.tuple [.str "value", dv]) := fun Hx p b e => .tup (SqT.of e) (.cons (.str _) (.cons b.ov.ob.dp .nil))
    have DF : ∀ (Hx : Hp) (f p q r : Addr), Bun Tb So.C a c x u L kv od dk bd dv Hx → Hx f = some (.lst [.ref p, .ref q, .ref r]) → Hx p = some (.tup [.str "text", od]) → Hx q = some (.tup [.str "text", od]) → Hx r = some (.tup [.str "value", bd]) → Dp K Hx (.ref f) (.list [.tuple [.str "text", dk], .tuple [.str "text", dk], .tuple [.str "value", dv]]) := fun Hx f p q r b e h1 h2 h3 => .lst (SqL.of e) (.cons (DT _ _ b h1) (.cons (DT _ _ b h2) (.cons (DV _ _ b h3) .nil)))
    refine ⟨_, rfl, _, _, 40000, 3, rfl, DF _ _ _ _ _ B24 efl e1 e2 e3, smF, by decide, by decide, ?_⟩
    refine ⟨_, rfl, (by show (2 : Nat) ≤ sizeLine; decide), fun t1 n1 => ?_⟩
    have s1 := Same.new (o := .tup [.str "text", od]) (Same.refl H24) n1
    have f1 : (upd H24 t1 (.tup [.str "text", od])) t1 = some (.tup [.str "text", od]) := upd_same
    generalize upd H24 t1 (.tup [.str "text", od]) = G1 at s1 f1 ⊢
    refine ⟨_, rfl, (by show (2 : Nat) ≤ sizeLine; decide), fun t2 n2 => ?_⟩
    have s2 := Same.new (o := .tup [.str "text", od]) (Same.refl G1) n2
    have f2 : (upd G1 t2 (.tup [.str "text", od])) t2 = some (.tup [.str "text", od]) := upd_same
    generalize upd G1 t2 (.tup [.str "text", od]) = G2 at s2 f2 ⊢
    refine ⟨_, rfl, (by show (2 : Nat) ≤ sizeLine; decide), fun t3 n3 => ?_⟩
    have s3 := Same.new (o := .tup [.str "value", bd]) (Same.refl G2) n3
    have f3 : (upd G2 t3 (.tup [.str "value", bd])) t3 = some (.tup [.str "value", bd]) := upd_same
    generalize upd G2 t3 (.tup [.str "value", bd]) = G3 at s3 f3 ⊢
    refine ⟨(by show (3 : Nat) ≤ sizeLine; decide), fun t4 n4 => ?_⟩
    have s4 := Same.new (o := .lst [.ref t1, .ref t2, .ref t3]) (Same.refl G3) n4
    have f4 : (upd G3 t4 (.lst [.ref t1, .ref t2, .ref t3])) t4 = some (.lst [.ref t1, .ref t2, .ref t3]) := upd_same
    generalize upd G3 t4 (.lst [.ref t1, .ref t2, .ref t3]) = G4 at s4 f4 ⊢
    have BG := B24.same (s1.trans (s2.trans (s3.trans s4)))
    refine ⟨_, _, 40000, 3, rfl, DF _ _ _ _ _ BG f4 (s4 _ _ (s3 _ _ (s2 _ _ f1))) (s4 _ _ (s3 _ _ f2)) (s4 _ _ f3), smF, by decide, by decide, rfl, _, rfl, ?_⟩
    rw [decide_eq_true rfl]
    refine iteF ?_
    clear B24 e1 e2 e3 efl s1 s2 s3 s4 f1 f2 f3 f4 n1 n2 n3 n4 fr DF smF
    -- fill
    refine ⟨BG.ht, fun H25 eN ht25 E2 Q' hE hQ => ?_⟩
    have B25 := BG.ext eN ht25
    obtain ⟨⟨dy, gy⟩, gv⟩ := id B25.st
    refine ⟨_, rfl, x, dy, _, rfl, gy, rfl, _, rfl, x, u, L, kv, bd, [], none, none, rfl, B25.st, by omega, .inr ⟨B25.ov.ob.value bv, fun H' dx s n e => hE _ _ _ (.inr (.inl ⟨dx, bd, rfl, rfl, e, fun p3 H26 s2 np3 e3 => ?_⟩))⟩⟩
    have B26 := B25.same (s.trans s2)
    clear hE hQ ht25 eN BG B25 s s2 n e np3 gy gv
    refine ⟨_, _, 10100, 2, rfl, DV _ _ B26 e3, smV, by decide, by decide, ?_⟩
    refine ⟨_, rfl, (by show (2 : Nat) ≤ sizeLine; decide), fun t1 n1 => ?_⟩
    have s1 := Same.new (o := .tup [.str "value", bd]) (Same.refl H26) n1
    have f1 : (upd H26 t1 (.tup [.str "value", bd])) t1 = some (.tup [.str "value", bd]) := upd_same
    generalize upd H26 t1 (.tup [.str "value", bd]) = H27 at s1 f1 ⊢
    have B27 := B26.same s1
    refine ⟨_, _, 10100, 2, rfl, DV _ _ B27 f1, smV, by decide, by decide, rfl, _, rfl, ?_⟩
    rw [decide_eq_true rfl]
    refine iteF ?_
    clear B26 e3 s1 f1 n1
    refine ⟨B27.ht, fun H28 eN ht28 E2 Q' hE hQ => ?_⟩
    have B28 := B27.ext eN ht28
    obtain ⟨⟨dy, gy⟩, gv⟩ := id B28.st
    refine ⟨_, rfl, x, dy, _, rfl, gy, rfl, _, rfl, _, rfl, _, rfl, _, rfl, rfl, rfl, x, u, L, kv, bd, k, some k, some k, rfl, B28.st, by omega, .inr ⟨B28.ov.ob.value bv, fun H' dx s n e => hE _ _ _ (.inr (.inl ⟨dx, bd, rfl, rfl, e, fun p3 H29 s2 np3 e3 => ?_⟩))⟩⟩
    have B29 := B28.same (s.trans s2)
    clear hE hQ ht28 eN B27 B28 s s2 n e np3 gy gv
    refine ⟨_, _, 10100, 2, rfl, DV _ _ B29 e3, smV, by decide, by decide, ?_⟩
    refine ⟨_, rfl, (by show (2 : Nat) ≤ sizeLine; decide), fun t1 n1 => ?_⟩
    have s1 := Same.new (o := .tup [.str "value", bd]) (Same.refl H29) n1
    have f1 : (upd H29 t1 (.tup [.str "value", bd])) t1 = some (.tup [.str "value", bd]) := upd_same
    generalize upd H29 t1 (.tup [.str "value", bd]) = H30 at s1 f1 ⊢
    have B30 := B29.same s1
    refine ⟨_, _, 10100, 2, rfl, DV _ _ B30 f1, smV, by decide, by decide, rfl, _, rfl, ?_⟩
    rw [decide_eq_true rfl]
    refine iteF ?_
    clear B29 e3 s1 f1 n1 DT DV smT smV
    -- asked for
    have DK : ∀ (Hx : Hp) (p : Addr), Bun Tb So.C a c x u L kv od dk bd dv Hx → Hx p = some (.tup [.str "key", od]) → Dp K Hx (.ref p) (.tuple [.str "key", dk]) := fun Hx p b e => .tup (SqT.of e) (.cons (.str _) (.cons b.ok.ob.dp .nil))
    have smK : Sm (.tuple [.str "key", dk]) 10100 2 := smTag2 (l := [107, 101, 121]) rfl (by decide) (by decide) B30.ok.sm
    refine ⟨B30.ht, fun H31 eN ht31 E2 Q' hE hQ => ?_⟩
    have B31 := B30.ext eN ht31
    refine ⟨_, rfl, _, rfl, x, u, L, kv, od, rfl, B31.st, .inr ⟨bad_get hkv (B31.ok.ob.key bk), fun H' dx s n e => hE _ _ _ (.inr (.inr (.inr ⟨dx, od, rfl, rfl, e, fun p3 H32 s2 np3 e3 => ?_⟩)))⟩⟩
    have B32 := B31.same (s.trans s2)
    clear hE hQ ht31 eN B30 B31 s s2 n e np3
    refine ⟨_, _, 10100, 2, rfl, DK _ _ B32 e3, smK, by decide, by decide, ?_⟩
    refine ⟨_, rfl, (by show (2 : Nat) ≤ sizeLine; decide), fun t1 n1 => ?_⟩
    have s1 := Same.new (o := .tup [.str "key", od]) (Same.refl H32) n1
    have f1 : (upd H32 t1 (.tup [.str "key", od])) t1 = some (.tup [.str "key", od]) := upd_same
    generalize upd H32 t1 (.tup [.str "key", od]) = H33 at s1 f1 ⊢
    have B33 := B32.same s1
    refine ⟨_, _, 10100, 2, rfl, DK _ _ B33 f1, smK, by decide, by decide, rfl, _, rfl, ?_⟩
    rw [decide_eq_true rfl]
    refine iteF ?_
    clear B32 e3 s1 f1 n1 DK smK
    obtain ⟨⟨dy, gy⟩, gv⟩ := id B33.st
    refine ⟨_, rfl, x, dy, _, rfl, gy, rfl, x, u, L, kv, [], none, none, rfl, B33.st, by omega, fun p9 H34 s9 n9 e9 => ?_⟩
    refine ⟨_, _, 300000, 2, rfl, dpPairs e9, smList hL wok wll, by decide, by decide, ?_⟩
    rw [← hkept]
    have B34 := B33.same s9
    refine ⟨_, rfl, rfl, _, rfl, ?_⟩
    rw [decide_eq_true rfl]
    refine iteF ?_
    clear B33 s9 n9 e9 gy gv hkept wok wll
    -- what is not there
    obtain ⟨l0, l1, L', rfl⟩ : ∃ l0 l1 L', L = l0 :: l1 :: L' := by
      have hz := hLt.len
      match L, hz with
      | [], h => simp at h; omega
      | [_], h => simp at h; omega
      | l0 :: l1 :: L', _ => exact ⟨l0, l1, L', rfl⟩
    have hszL : (S (l0 :: l1 :: L')).length ≤ sizeLine := by rw [S_len, sizeLine_eq]; omega
    have hl0 := hL l0 List.mem_cons_self
    have hl1 := hL l1 (List.mem_cons_of_mem _ List.mem_cons_self)
    refine ⟨_, rfl, _, 0, l0, rfl, rfl, hszL, (by rw [S_toList]; exact atI_int (by decide) rfl), ?_⟩
    refine ⟨_, rfl, _, 1, l1, rfl, rfl, hszL, (by rw [S_toList]; exact atI_int (by decide) rfl), ?_⟩
    refine ⟨_, rfl, _, 0, l0, rfl, rfl, hszL, (by rw [S_toList]; exact atI_int (by decide) rfl), [l0], 9, rfl, rfl, by simp, by decide, ?_⟩
    refine ⟨(by show (4 : Nat) ≤ sizeLine; decide), fun td ntd => ?_⟩
    have s1 := Same.new (o := .tup [.str (S []), .str (S [l0]), .str (S [l1]), .str (S (rep [l0] 9))]) (Same.refl H34) ntd
    have etd : (upd H34 td (.tup [.str (S []), .str (S [l0]), .str (S [l1]), .str (S (rep [l0] 9))])) td = some (.tup [.str (S []), .str (S [l0]), .str (S [l1]), .str (S (rep [l0] 9))]) := upd_same
    have B35 := B34.same s1
    refine ⟨td, rfl, ⟨_, SqT.of upd_same⟩, fun D2 hD2 => ?_⟩
    have hD2 : (upd H34 td (.tup [.str (S []), .str (S [l0]), .str (S [l1]), .str (S (rep [l0] 9))])) D2 = none := hD2
    have hks : ∀ y ∈ [V.str (S []), .str (S [l0]), .str (S [l1]), .str (S (rep [l0] 9))], ∃ k : List Nat, y = .str (S k) ∧ k.length ≤ 9 ∧ ∀ c ∈ k, c < 1114112 := by
      intro y hy
      simp only [List.mem_cons, List.not_mem_nil, or_false] at hy
      rcases hy with rfl | rfl | rfl | rfl
      · exact ⟨_, rfl, by decide, by decide⟩
      · exact ⟨_, rfl, by simp, by simpa using hl0⟩
      · exact ⟨_, rfl, by simp, by simpa using hl1⟩
      · refine ⟨_, rfl, by rw [rep_len]; simp, fun c hc => ?_⟩
        simp [rep] at hc
        rw [hc]; exact hl0
    have nD2 := B35.dl.ne hD2
    have hst := B35.st
    refine lcS (src_tup K td [.str (S []), .str (S [l0]), .str (S [l1]), .str (S (rep [l0] 9))]) (lostP kv) id (SqT.of etd) hD2 (fun _ => rfl) (by simp) ?_ ?_ ?_
    · intro y hy H' s Q kQ
      obtain ⟨k0, rfl, _, _⟩ := hks y hy
      have st' := hst.same s
      obtain ⟨⟨dy, gy⟩, gv⟩ := id st'
      refine ⟨_, rfl, _, rfl, x, dy, _, rfl, gy, x, u, _, kv, _, rfl, st', .inl ⟨k0, rfl, _, rfl, _, rfl, ?_⟩⟩
      exact kQ H' (Same.refl _)
    · intro y hy _ H' s Q kQ
      exact ⟨_, rfl, kQ H' (Same.refl _)⟩
    intro H36 s36 e36
    rw [List.map_id] at e36
    have B36 := B35.same s36
    clear B35 hst s36 hD2 etd s1 B34
    show gName 12 (.ref D2) _ _ _
    refine gn_to (σ' := [some (.ref s0), some (.ref a), some kk, some (.str (S (l0 :: l1 :: L'))), some (.ref D), some (.ref x), some (.str kept), some (.str (S k)), some (.int v), some od, some bd, some (.ref fl), some (.ref D2), v13, v14]) rfl ?_
    generalize hlost : ([V.str (S []), .str (S [l0]), .str (S [l1]), .str (S (rep [l0] 9))]).filter (lostP kv) = lost at e36
    have hlo : ∀ y ∈ lost, ∃ k : List Nat, y = .str (S k) ∧ k.length ≤ 9 ∧ (∀ c ∈ k, c < 1114112) ∧ getT kv k = none := by
      intro y hy
      rw [← hlost] at hy
      obtain ⟨h1, h2⟩ := List.mem_filter.mp hy
      obtain ⟨k0, rfl, h3, h4⟩ := hks y h1
      refine ⟨k0, rfl, h3, h4, ?_⟩
      rw [lostP_S] at h2
      cases hgt : getT kv k0 with
      | none => rfl
      | some w => rw [hgt] at h2; cases h2
    clear hlost hks
    refine ⟨_, rfl, D2, rfl, ⟨_, SqL.of e36⟩, ?_⟩
    refine for_it (src_list K D2 lost).w (fun i σ H' => ∃ w13 : Option V, σ = [some (.ref s0), some (.ref a), some kk, some (.str (S (l0 :: l1 :: L'))), some (.ref D), some (.ref x), some (.str kept), some (.str (S k)), some (.int v), some od, some bd, some (.ref fl), some (.ref D2), w13, v14] ∧ Bun Tb So.C a c x u (l0 :: l1 :: L') kv od dk bd dv H' ∧ H' D2 = some (.lst lost))
      ⟨_, rfl, B36, e36⟩ (fun i σ H' _ ⟨_, _, _, e⟩ => SqL.of e) ?_ ?_
    · rintro j y σ H37 H37' hj ⟨w13, rfl, B37, e37⟩ ⟨rfl, hy⟩
      obtain ⟨k0, rfl, hk01, hk02, hgt⟩ := hlo y (List.mem_of_getElem? hy)
      refine gn_to (σ' := [some (.ref s0), some (.ref a), some kk, some (.str (S (l0 :: l1 :: L'))), some (.ref D), some (.ref x), some (.str kept), some (.str (S k)), some (.int v), some od, some bd, some (.ref fl), some (.ref D2), some (.str (S k0)), v14]) rfl ?_
      have smK : Sm (.tuple [.str "key", .str (S k0)]) 10100 2 := smTag2 (l := [107, 101, 121]) rfl (by decide) (by decide) ((Sm.str hk02).le (by omega) (by decide))
      refine ⟨B37.ht, fun H38 eN ht38 E2 Q' hE hQ => ?_⟩
      have B38 := B37.ext eN ht38
      have e38 := eN _ _ e37 (fun _ z => nomatch z)
      refine ⟨_, rfl, _, rfl, x, u, _, kv, _, rfl, B38.st, .inr ⟨.inl ⟨k0, rfl, hgt⟩, fun H' dx s n e => hE _ _ _ (.inr (.inr (.inr ⟨dx, _, rfl, rfl, e, fun p3 H39 s2 np3 e3 => ?_⟩)))⟩⟩
      have B39 := B38.same (s.trans s2)
      have e39 := s2 _ _ (s _ _ e38)
      clear hE hQ ht38 eN B37 B38 s s2 n e np3 e37 e38
      refine ⟨_, _, 10100, 2, rfl, .tup (SqT.of e3) (.cons (.str _) (.cons (.str _) .nil)), smK, by decide, by decide, ?_⟩
      refine ⟨_, rfl, (by show (2 : Nat) ≤ sizeLine; decide), fun t1 n1 => ?_⟩
      have s1 := Same.new (o := .tup [.str "key", .str (S k0)]) (Same.refl H39) n1
      refine ⟨_, _, 10100, 2, rfl, .tup (SqT.of upd_same) (.cons (.str _) (.cons (.str _) .nil)), smK, by decide, by decide, rfl, _, rfl, ?_⟩
      rw [decide_eq_true rfl]
      exact iteF ⟨_, rfl, B39.same s1, s1 _ _ e39⟩
    rintro σ H37 ⟨w13, rfl, B37, e37⟩
    exact ⟨_, _, _, _, _, _, _, _, _, _, _, _, _, rfl, B37.dl, B37.ht⟩
end
end K47
namespace K47
open PySem PySem.Spec PyProof.Rows L2 U
theorem all_mk {w : World} {K : PySem.W.Frag} {h : Heap} {mg : Str → Option Value} {q : Program} {cA20 cA19 PL PR : Addr} {fa f0 f1 f2 f3 f4 f5 f6 f7 f8 f9 f10 f11 f12 f13 f14 f15 f16 f17 f18 f19 f20 : Addr} (X : K.In h) (G : h.Ns mainGlobals mg) (hfa : mg "law" = some (.ref fa))
    {od0 an0 od1 an1 od2 an2 od3 an3 od4 an4 od5 an5 od6 an6 od7 an7 od8 an8 od9 an9 od10 an10 od11 an11 od12 an12 od13 an13 od14 an14 od15 an15 od16 an16 od17 an17 od18 an18 od19 an19 od20 an20 : Option Addr} {sl0 sl1 sl2 sl3 sl4 sl5 sl6 sl7 sl8 sl9 sl10 sl11 sl12 sl13 sl14 sl15 sl16 sl17 sl18 sl19 sl20 : Array (Option Value)} {oc0 kV0 dc0 pm0 cd0 ct0 oc1 kV1 dc1 pm1 cd1 ct1 oc2 kV2 dc2 pm2 cd2 ct2 oc3 kV3 dc3 pm3 cd3 ct3 oc4 kV4 dc4 pm4 cd4 ct4 oc5 kV5 dc5 pm5 cd5 ct5 oc6 kV6 dc6 pm6 cd6 ct6 oc7 kV7 dc7 pm7 cd7 ct7 oc8 kV8 dc8 pm8 cd8 ct8 oc9 kV9 dc9 pm9 cd9 ct9 oc10 kV10 dc10 pm10 cd10 ct10 oc11 kV11 dc11 pm11 cd11 ct11 oc12 kV12 dc12 pm12 cd12 ct12 oc13 kV13 dc13 pm13 cd13 ct13 oc14 kV14 dc14 pm14 cd14 ct14 oc15 kV15 dc15 pm15 cd15 ct15 oc16 kV16 dc16 pm16 cd16 ct16 oc17 kV17 dc17 pm17 cd17 ct17 oc18 kV18 dc18 pm18 cd18 ct18 oc19 kV19 dc19 pm19 ct19 oc20 kV20 dc20 pm20 ct20 : Value}
    (a0 : PySem.W.nsIn K mainGlobals "are_letters" = some (some (.ref f0)))
    (l0 : K.lookup f0 = some ⟨oc0, od0, .func (PySem.W.fnOf "are_letters" "are_letters" (defArgs s_are_letters) (defBody s_are_letters) (defScope s_are_letters) .none kV0 dc0 pm0 an0 cd0 ct0), sl0⟩)
    (c0 : PySem.W.codeIn K cd0 "are_letters" = true) (k0 : PySem.W.keepIn K (.ref f0) = true)
    (a1 : PySem.W.nsIn K mainGlobals "check_letters" = some (some (.ref f1)))
    (l1 : K.lookup f1 = some ⟨oc1, od1, .func (PySem.W.fnOf "check_letters" "check_letters" (defArgs s_check_letters) (defBody s_check_letters) (defScope s_check_letters) .none kV1 dc1 pm1 an1 cd1 ct1), sl1⟩)
    (c1 : PySem.W.codeIn K cd1 "check_letters" = true) (k1 : PySem.W.keepIn K (.ref f1) = true)
    (a2 : PySem.W.nsIn K mainGlobals "is_text" = some (some (.ref f2)))
    (l2 : K.lookup f2 = some ⟨oc2, od2, .func (PySem.W.fnOf "is_text" "is_text" (defArgs s_is_text) (defBody s_is_text) (defScope s_is_text) .none kV2 dc2 pm2 an2 cd2 ct2), sl2⟩)
    (c2 : PySem.W.codeIn K cd2 "is_text" = true) (k2 : PySem.W.keepIn K (.ref f2) = true)
    (a3 : PySem.W.nsIn K mainGlobals "need_text" = some (some (.ref f3)))
    (l3 : K.lookup f3 = some ⟨oc3, od3, .func (PySem.W.fnOf "need_text" "need_text" (defArgs s_need_text) (defBody s_need_text) (defScope s_need_text) .none kV3 dc3 pm3 an3 cd3 ct3), sl3⟩)
    (c3 : PySem.W.codeIn K cd3 "need_text" = true) (k3 : PySem.W.keepIn K (.ref f3) = true)
    (a4 : PySem.W.nsIn K mainGlobals "is_integer" = some (some (.ref f4)))
    (l4 : K.lookup f4 = some ⟨oc4, od4, .func (PySem.W.fnOf "is_integer" "is_integer" (defArgs s_is_integer) (defBody s_is_integer) (defScope s_is_integer) .none kV4 dc4 pm4 an4 cd4 ct4), sl4⟩)
    (c4 : PySem.W.codeIn K cd4 "is_integer" = true) (k4 : PySem.W.keepIn K (.ref f4) = true)
    (a5 : PySem.W.nsIn K mainGlobals "is_value" = some (some (.ref f5)))
    (l5 : K.lookup f5 = some ⟨oc5, od5, .func (PySem.W.fnOf "is_value" "is_value" (defArgs s_is_value) (defBody s_is_value) (defScope s_is_value) .none kV5 dc5 pm5 an5 cd5 ct5), sl5⟩)
    (c5 : PySem.W.codeIn K cd5 "is_value" = true) (k5 : PySem.W.keepIn K (.ref f5) = true)
    (a6 : PySem.W.nsIn K mainGlobals "need_value" = some (some (.ref f6)))
    (l6 : K.lookup f6 = some ⟨oc6, od6, .func (PySem.W.fnOf "need_value" "need_value" (defArgs s_need_value) (defBody s_need_value) (defScope s_need_value) .none kV6 dc6 pm6 an6 cd6 ct6), sl6⟩)
    (c6 : PySem.W.codeIn K cd6 "need_value" = true) (k6 : PySem.W.keepIn K (.ref f6) = true)
    (a7 : PySem.W.nsIn K mainGlobals "is_between" = some (some (.ref f7)))
    (l7 : K.lookup f7 = some ⟨oc7, od7, .func (PySem.W.fnOf "is_between" "is_between" (defArgs s_is_between) (defBody s_is_between) (defScope s_is_between) .none kV7 dc7 pm7 an7 cd7 ct7), sl7⟩)
    (c7 : PySem.W.codeIn K cd7 "is_between" = true) (k7 : PySem.W.keepIn K (.ref f7) = true)
    (a8 : PySem.W.nsIn K mainGlobals "_law_deal" = some (some (.ref f8)))
    (l8 : K.lookup f8 = some ⟨oc8, od8, .func (PySem.W.fnOf "_law_deal" "_law_deal" (defArgs s_l_deal) (defBody s_l_deal) (defScope s_l_deal) .none kV8 dc8 pm8 an8 cd8 ct8), sl8⟩)
    (c8 : PySem.W.codeIn K cd8 "_law_deal" = true) (k8 : PySem.W.keepIn K (.ref f8) = true)
    (a9 : PySem.W.nsIn K mainGlobals "_law_draw" = some (some (.ref f9)))
    (l9 : K.lookup f9 = some ⟨oc9, od9, .func (PySem.W.fnOf "_law_draw" "_law_draw" (defArgs s_l_draw) (defBody s_l_draw) (defScope s_l_draw) .none kV9 dc9 pm9 an9 cd9 ct9), sl9⟩)
    (c9 : PySem.W.codeIn K cd9 "_law_draw" = true) (k9 : PySem.W.keepIn K (.ref f9) = true)
    (a10 : PySem.W.nsIn K mainGlobals "_law_pick" = some (some (.ref f10)))
    (l10 : K.lookup f10 = some ⟨oc10, od10, .func (PySem.W.fnOf "_law_pick" "_law_pick" (defArgs s_l_pick) (defBody s_l_pick) (defScope s_l_pick) .none kV10 dc10 pm10 an10 cd10 ct10), sl10⟩)
    (c10 : PySem.W.codeIn K cd10 "_law_pick" = true) (k10 : PySem.W.keepIn K (.ref f10) = true)
    (a11 : PySem.W.nsIn K mainGlobals "_law_letters" = some (some (.ref f11)))
    (l11 : K.lookup f11 = some ⟨oc11, od11, .func (PySem.W.fnOf "_law_letters" "_law_letters" (defArgs s_l_letters) (defBody s_l_letters) (defScope s_l_letters) .none kV11 dc11 pm11 an11 cd11 ct11), sl11⟩)
    (c11 : PySem.W.codeIn K cd11 "_law_letters" = true) (k11 : PySem.W.keepIn K (.ref f11) = true)
    (a12 : PySem.W.nsIn K mainGlobals "_law_text" = some (some (.ref f12)))
    (l12 : K.lookup f12 = some ⟨oc12, od12, .func (PySem.W.fnOf "_law_text" "_law_text" (defArgs s_l_text) (defBody s_l_text) (defScope s_l_text) .none kV12 dc12 pm12 an12 cd12 ct12), sl12⟩)
    (c12 : PySem.W.codeIn K cd12 "_law_text" = true) (k12 : PySem.W.keepIn K (.ref f12) = true)
    (a13 : PySem.W.nsIn K mainGlobals "_law_value" = some (some (.ref f13)))
    (l13 : K.lookup f13 = some ⟨oc13, od13, .func (PySem.W.fnOf "_law_value" "_law_value" (defArgs s_l_value) (defBody s_l_value) (defScope s_l_value) .none kV13 dc13 pm13 an13 cd13 ct13), sl13⟩)
    (c13 : PySem.W.codeIn K cd13 "_law_value" = true) (k13 : PySem.W.keepIn K (.ref f13) = true)
    (a14 : PySem.W.nsIn K mainGlobals "_law_refused" = some (some (.ref f14)))
    (l14 : K.lookup f14 = some ⟨oc14, od14, .func (PySem.W.fnOf "_law_refused" "_law_refused" (defArgs s_l_refused) (defBody s_l_refused) (defScope s_l_refused) .none kV14 dc14 pm14 an14 cd14 ct14), sl14⟩)
    (c14 : PySem.W.codeIn K cd14 "_law_refused" = true) (k14 : PySem.W.keepIn K (.ref f14) = true)
    (a15 : PySem.W.nsIn K mainGlobals "_law_put" = some (some (.ref f15)))
    (l15 : K.lookup f15 = some ⟨oc15, od15, .func (PySem.W.fnOf "_law_put" "_law_put" (defArgs s_l_put) (defBody s_l_put) (defScope s_l_put) .none kV15 dc15 pm15 an15 cd15 ct15), sl15⟩)
    (c15 : PySem.W.codeIn K cd15 "_law_put" = true) (k15 : PySem.W.keepIn K (.ref f15) = true)
    (a16 : PySem.W.nsIn K mainGlobals "_law_got" = some (some (.ref f16)))
    (l16 : K.lookup f16 = some ⟨oc16, od16, .func (PySem.W.fnOf "_law_got" "_law_got" (defArgs s_l_got) (defBody s_l_got) (defScope s_l_got) .none kV16 dc16 pm16 an16 cd16 ct16), sl16⟩)
    (c16 : PySem.W.codeIn K cd16 "_law_got" = true) (k16 : PySem.W.keepIn K (.ref f16) = true)
    (a17 : PySem.W.nsIn K mainGlobals "_law_odd_key" = some (some (.ref f17)))
    (l17 : K.lookup f17 = some ⟨oc17, od17, .func (PySem.W.fnOf "_law_odd_key" "_law_odd_key" (defArgs s_l_odd_key) (defBody s_l_odd_key) (defScope s_l_odd_key) .none kV17 dc17 pm17 an17 cd17 ct17), sl17⟩)
    (c17 : PySem.W.codeIn K cd17 "_law_odd_key" = true) (k17 : PySem.W.keepIn K (.ref f17) = true)
    (a18 : PySem.W.nsIn K mainGlobals "_law_odd_value" = some (some (.ref f18)))
    (l18 : K.lookup f18 = some ⟨oc18, od18, .func (PySem.W.fnOf "_law_odd_value" "_law_odd_value" (defArgs s_l_odd_value) (defBody s_l_odd_value) (defScope s_l_odd_value) .none kV18 dc18 pm18 an18 cd18 ct18), sl18⟩)
    (c18 : PySem.W.codeIn K cd18 "_law_odd_value" = true) (k18 : PySem.W.keepIn K (.ref f18) = true)
    (a19 : PySem.W.nsIn K mainGlobals "_law_pairs_right" = some (some (.ref f19)))
    (l19 : K.lookup f19 = some ⟨oc19, od19, .func (PySem.W.fnOf "_law_pairs_right" "_law_pairs_right" (defArgs s_l_pairs_right) (defBody s_l_pairs_right) (defScope s_l_pairs_right) .none kV19 dc19 pm19 an19 (.ref cA19) ct19), sl19⟩)
    (c19 : PySem.W.codeIn K (.ref cA19) "_law_pairs_right" = true) (k19 : PySem.W.keepIn K (.ref f19) = true)
    (a20 : PySem.W.nsIn K mainGlobals "law" = some (some (.ref f20)))
    (l20 : K.lookup f20 = some ⟨oc20, od20, .func (PySem.W.fnOf "law" "law" (defArgs s_law) (defBody s_law) (defScope s_law) .none kV20 dc20 pm20 an20 (.ref cA20) ct20), sl20⟩)
    (c20 : PySem.W.codeIn K (.ref cA20) "law" = true) (k20 : PySem.W.keepIn K (.ref f20) = true)
    (z0 : PySem.W.nsIn K mainGlobals "KeyError" = some none)
    (z1 : PySem.W.nsIn K mainGlobals "abs" = some none)
    (z2 : PySem.W.nsIn K mainGlobals "all" = some none)
    (z3 : PySem.W.nsIn K mainGlobals "bool" = some none)
    (z4 : PySem.W.nsIn K mainGlobals "int" = some none)
    (z5 : PySem.W.nsIn K mainGlobals "isinstance" = some none)
    (z6 : PySem.W.nsIn K mainGlobals "len" = some none)
    (z7 : PySem.W.nsIn K mainGlobals "list" = some none)
    (z8 : PySem.W.nsIn K mainGlobals "range" = some none)
    (z9 : PySem.W.nsIn K mainGlobals "repr" = some none)
    (z10 : PySem.W.nsIn K mainGlobals "sorted" = some none)
    (z11 : PySem.W.nsIn K mainGlobals "str" = some none)
    (z12 : PySem.W.nsIn K mainGlobals "tuple" = some none)
    {C_UnderError C_InvalidLetters C_NoText C_NoValue C_NoKey i_NoText N_NoText cda_NoText cc_NoText i_NoValue N_NoValue cda_NoValue cc_NoValue i_NoKey N_NoKey cda_NoKey cc_NoKey C e0 f_minit T_minit f_mput f_mset f_mget f_min f_mspots f_mpairs T_mpairs D_mpairs f_mfill D_mfill : Addr} {nm_NoText q_NoText file_NoText nm_NoValue q_NoValue file_NoValue nm_NoKey q_NoKey file_NoKey : Str} {bs_NoText bm_NoText sub_NoText bs_NoValue bm_NoValue sub_NoValue bs_NoKey bm_NoKey sub_NoKey : List Value} {sn_NoText sn_NoValue sn_NoKey : List Str} {ab_NoText ab_NoValue ab_NoKey : Bool} {col_NoText col_NoValue col_NoKey : Option Bool} {dd_NoText od_NoText an_NoText cdd_NoText cld_NoText dd_NoValue od_NoValue an_NoValue cdd_NoValue cld_NoValue dd_NoKey od_NoKey an_NoKey cdd_NoKey cld_NoKey dd_e0 od_minit an_minit dT_minit od_mput an_mput od_mset an_mset od_mget an_mget od_min an_min od_mspots an_mspots od_mpairs an_mpairs dT_mpairs od_mfill an_mfill : Option Addr} {k0_NoText k1_NoText k2_NoText k3_NoText k5_NoText k0_NoValue k1_NoValue k2_NoValue k3_NoValue k5_NoValue k0_NoKey k1_NoKey k2_NoKey k3_NoKey k5_NoKey : Option Value} {oc_NoText kV_NoText doc_NoText pm_NoText ct_NoText ccl_NoText cl_NoText oc_NoValue kV_NoValue doc_NoValue pm_NoValue ct_NoValue ccl_NoValue cl_NoValue oc_NoKey kV_NoKey doc_NoKey pm_NoKey ct_NoKey ccl_NoKey cl_NoKey oc_minit dc_minit pm_minit cd_minit ct_minit cT_minit kV_minit oc_mput dc_mput pm_mput cd_mput ct_mput kV_mput oc_mset dc_mset pm_mset cd_mset ct_mset kV_mset oc_mget dc_mget pm_mget cd_mget ct_mget kV_mget oc_min dc_min pm_min cd_min ct_min kV_min oc_mspots dc_mspots pm_mspots cd_mspots ct_mspots kV_mspots oc_mpairs dc_mpairs pm_mpairs cd_mpairs ct_mpairs cT_mpairs oc_mfill dc_mfill pm_mfill cd_mfill ct_mfill : Value} {osl_NoText ccs_NoText csl_NoText osl_NoValue ccs_NoValue csl_NoValue osl_NoKey ccs_NoKey csl_NoKey sl_e0 sl_minit sT_minit sl_mput sl_mset sl_mget sl_min sl_mspots sl_mpairs sT_mpairs sl_mfill : Array (Option Value)} {vs_NoText vs_NoValue vs_NoKey : Array Value} {tf_NoText tf_NoValue tf_NoKey tS tF tM tk_mpairs : Tok} {ne0 nT_minit nT_mpairs : Nat}
    (A_UnderError : PySem.W.nsIn K mainGlobals "UnderError" = some (some (.ref C_UnderError)))
    (A_InvalidLetters : PySem.W.nsIn K mainGlobals "InvalidLetters" = some (some (.ref C_InvalidLetters)))
    (A_NoText : PySem.W.nsIn K mainGlobals "NoText" = some (some (.ref C_NoText)))
    (A_NoValue : PySem.W.nsIn K mainGlobals "NoValue" = some (some (.ref C_NoValue)))
    (A_NoKey : PySem.W.nsIn K mainGlobals "NoKey" = some (some (.ref C_NoKey)))
    (I_NoText : PySem.W.findIn K (.ref C_NoText) "__init__" = some (some (.ref i_NoText)))
    (L_NoText : K.lookup C_NoText = some (excClassObj nm_NoText q_NoText C_NoText N_NoText bs_NoText bm_NoText true sn_NoText sub_NoText ab_NoText col_NoText dd_NoText k0_NoText k1_NoText k2_NoText k3_NoText k5_NoText "ValueError.__new__"))
    (T_NoText : PySem.W.excTail veTl bm_NoText = true)
    (S_NoText : supCB K "ValueError" "ValueError.__init__" veTl C_NoText i_NoText "value" = true)
    (F_NoText : K.lookup i_NoText = some ⟨oc_NoText, od_NoText, .func (PySem.W.ksFn "__init__" "NoText.__init__" (defArgs s_NoText) (defBody s_NoText) (defScope s_NoText) .none kV_NoText doc_NoText pm_NoText an_NoText (.ref cda_NoText) ct_NoText cc_NoText), osl_NoText⟩)
    (D_NoText : PySem.W.codeIn K (.ref cda_NoText) "NoText.__init__" = true)
    (E_NoText : K.lookup cda_NoText = some ⟨ccl_NoText, cdd_NoText, .fields vs_NoText, ccs_NoText⟩)
    (V_NoText : vs_NoText[2]? = some (.str file_NoText tf_NoText))
    (W_NoText : ((PySem.Challenge.pw_undername_k47_stores_refused.main.file : Str) == file_NoText) = true)
    (X_NoText : K.lookup cc_NoText = some ⟨cl_NoText, cld_NoText, .cell (some (.ref C_NoText)), csl_NoText⟩)
    (Y_NoText : PySem.W.typeIn K (.ref i_NoText) = some (.type "function"))
    (I_NoValue : PySem.W.findIn K (.ref C_NoValue) "__init__" = some (some (.ref i_NoValue)))
    (L_NoValue : K.lookup C_NoValue = some (excClassObj nm_NoValue q_NoValue C_NoValue N_NoValue bs_NoValue bm_NoValue true sn_NoValue sub_NoValue ab_NoValue col_NoValue dd_NoValue k0_NoValue k1_NoValue k2_NoValue k3_NoValue k5_NoValue "ValueError.__new__"))
    (T_NoValue : PySem.W.excTail veTl bm_NoValue = true)
    (S_NoValue : supCB K "ValueError" "ValueError.__init__" veTl C_NoValue i_NoValue "value" = true)
    (F_NoValue : K.lookup i_NoValue = some ⟨oc_NoValue, od_NoValue, .func (PySem.W.ksFn "__init__" "NoValue.__init__" (defArgs s_NoValue) (defBody s_NoValue) (defScope s_NoValue) .none kV_NoValue doc_NoValue pm_NoValue an_NoValue (.ref cda_NoValue) ct_NoValue cc_NoValue), osl_NoValue⟩)
    (D_NoValue : PySem.W.codeIn K (.ref cda_NoValue) "NoValue.__init__" = true)
    (E_NoValue : K.lookup cda_NoValue = some ⟨ccl_NoValue, cdd_NoValue, .fields vs_NoValue, ccs_NoValue⟩)
    (V_NoValue : vs_NoValue[2]? = some (.str file_NoValue tf_NoValue))
    (W_NoValue : ((PySem.Challenge.pw_undername_k47_stores_refused.main.file : Str) == file_NoValue) = true)
    (X_NoValue : K.lookup cc_NoValue = some ⟨cl_NoValue, cld_NoValue, .cell (some (.ref C_NoValue)), csl_NoValue⟩)
    (Y_NoValue : PySem.W.typeIn K (.ref i_NoValue) = some (.type "function"))
    (I_NoKey : PySem.W.findIn K (.ref C_NoKey) "__init__" = some (some (.ref i_NoKey)))
    (L_NoKey : K.lookup C_NoKey = some (excClassObj nm_NoKey q_NoKey C_NoKey N_NoKey bs_NoKey bm_NoKey true sn_NoKey sub_NoKey ab_NoKey col_NoKey dd_NoKey k0_NoKey k1_NoKey k2_NoKey k3_NoKey k5_NoKey "LookupError.__new__"))
    (T_NoKey : PySem.W.excTail keTail bm_NoKey = true)
    (S_NoKey : supCB K "KeyError" "KeyError.__init__" keTail C_NoKey i_NoKey "key" = true)
    (F_NoKey : K.lookup i_NoKey = some ⟨oc_NoKey, od_NoKey, .func (PySem.W.ksFn "__init__" "NoKey.__init__" (defArgs s_NoKey) (defBody s_NoKey) (defScope s_NoKey) .none kV_NoKey doc_NoKey pm_NoKey an_NoKey (.ref cda_NoKey) ct_NoKey cc_NoKey), osl_NoKey⟩)
    (D_NoKey : PySem.W.codeIn K (.ref cda_NoKey) "NoKey.__init__" = true)
    (E_NoKey : K.lookup cda_NoKey = some ⟨ccl_NoKey, cdd_NoKey, .fields vs_NoKey, ccs_NoKey⟩)
    (V_NoKey : vs_NoKey[2]? = some (.str file_NoKey tf_NoKey))
    (W_NoKey : ((PySem.Challenge.pw_undername_k47_stores_refused.main.file : Str) == file_NoKey) = true)
    (X_NoKey : K.lookup cc_NoKey = some ⟨cl_NoKey, cld_NoKey, .cell (some (.ref C_NoKey)), csl_NoKey⟩)
    (Y_NoKey : PySem.W.typeIn K (.ref i_NoKey) = some (.type "function"))
    (xi_InvalidLetters : PySem.W.excIn K C_InvalidLetters veTl "ValueError.__new__" = true)
    (kc_InvalidLetters : PySem.W.keepIn K (.ref C_InvalidLetters) = true)
    (ec_InvalidLetters : excCB K C_InvalidLetters = true)
    (bB_InvalidLetters : PySem.W.subIn K (.ref C_InvalidLetters) (.type "BaseException") = some true)
    (tB_InvalidLetters : PySem.W.typeIn K (.ref C_InvalidLetters) = some (.type "type"))
    (ec_NoText : excCB K C_NoText = true)
    (bB_NoText : PySem.W.subIn K (.ref C_NoText) (.type "BaseException") = some true)
    (tB_NoText : PySem.W.typeIn K (.ref C_NoText) = some (.type "type"))
    (ec_NoValue : excCB K C_NoValue = true)
    (bB_NoValue : PySem.W.subIn K (.ref C_NoValue) (.type "BaseException") = some true)
    (tB_NoValue : PySem.W.typeIn K (.ref C_NoValue) = some (.type "type"))
    (ec_NoKey : excCB K C_NoKey = true)
    (bB_NoKey : PySem.W.subIn K (.ref C_NoKey) (.type "BaseException") = some true)
    (tB_NoKey : PySem.W.typeIn K (.ref C_NoKey) = some (.type "type"))
    (zS : PySem.W.nsIn K mainGlobals "SIGNS" = some (some (.str "-./0123456789_abcdefghijklmnopqrstuvwxyz" tS)))
    (zF : PySem.W.nsIn K mainGlobals "FEWEST" = some (some (.int 2 tF)))
    (zM : PySem.W.nsIn K mainGlobals "MOST" = some (some (.int 5 tM)))
    (zsup : PySem.W.nsIn K mainGlobals "super" = some none)
    (eK : PySem.W.exmOne K (.ref C_NoKey) (.ref C_NoKey) = some true)
    (kK : PySem.W.kitOne K (.ref C_NoKey) (.type "KeyError") = some true)
    (eU_InvalidLetters : PySem.W.exmOne K (.ref C_InvalidLetters) (.ref C_UnderError) = some true)
    (eU_NoText : PySem.W.exmOne K (.ref C_NoText) (.ref C_UnderError) = some true)
    (eU_NoValue : PySem.W.exmOne K (.ref C_NoValue) (.ref C_UnderError) = some true)
    (eU_NoKey : PySem.W.exmOne K (.ref C_NoKey) (.ref C_UnderError) = some false)
    (kk_InvalidLetters_InvalidLetters : PySem.W.kitOne K (.ref C_InvalidLetters) (.ref C_InvalidLetters) = some true)
    (kk_InvalidLetters_NoText : PySem.W.kitOne K (.ref C_InvalidLetters) (.ref C_NoText) = some false)
    (kk_InvalidLetters_NoValue : PySem.W.kitOne K (.ref C_InvalidLetters) (.ref C_NoValue) = some false)
    (kk_NoText_InvalidLetters : PySem.W.kitOne K (.ref C_NoText) (.ref C_InvalidLetters) = some false)
    (kk_NoText_NoText : PySem.W.kitOne K (.ref C_NoText) (.ref C_NoText) = some true)
    (kk_NoText_NoValue : PySem.W.kitOne K (.ref C_NoText) (.ref C_NoValue) = some false)
    (kk_NoValue_InvalidLetters : PySem.W.kitOne K (.ref C_NoValue) (.ref C_InvalidLetters) = some false)
    (kk_NoValue_NoText : PySem.W.kitOne K (.ref C_NoValue) (.ref C_NoText) = some false)
    (kk_NoValue_NoValue : PySem.W.kitOne K (.ref C_NoValue) (.ref C_NoValue) = some true)
    (aC : PySem.W.nsIn K mainGlobals "Store" = some (some (.ref C)))
    (pg : PySem.W.plainGet K C Str.empty = true)
    (hdC : PySem.W.hasDictIn K C = true)
    (po : PySem.W.plainOver K C = true)
    (sa : PySem.W.findIn K (.ref C) "__setattr__" = some (some (.builtin "object.__setattr__")))
    (mk : PySem.W.makesIn K C = true)
    (kc : PySem.W.keepIn K (.ref C) = true)
    (nL : PySem.W.findIn K (.ref C) "letters" = some none)
    (nT : PySem.W.findIn K (.ref C) "table" = some none)
    (nsq : PySem.W.noSeq K C = true)
    (neA : PySem.W.findIn K (.ref C) "__ne__" = some (some (.builtin "object.__ne__")))
    (neB : PySem.W.subIn K (.ref C) (.type "object") = some true)
    (cA : PySem.W.findIn K (.ref C) "__class__" = some (some (.builtin "object.__class__")))
    (cB : PySem.W.specialIn K (.builtin "object.__class__") "__get__" = some (some (.builtin "getset_descriptor.__get__")))
    (cC : PySem.W.takesIn K (.builtin "object.__class__") = some true)
    (cD : PySem.W.mroIn K C (.type "object") = some true)
    (kS : PySem.W.kitOne K (.ref C) (.ref C) = some true)
    (kL : PySem.W.kitOne K (.type "list") (.ref C) = some false)
    (kD : PySem.W.kitOne K (.type "dict") (.ref C) = some false)
    (fL : PySem.W.notFirst K C (.type "list") = true)
    (fD : PySem.W.notFirst K C (.type "dict") = true)
    (a_minit : PySem.W.findIn K (.ref C) "__init__" = some (some (.ref f_minit)))
    (i_minit : PySem.W.isFn K (.ref f_minit) = true)
    (l_minit : K.lookup f_minit = some ⟨oc_minit, od_minit, .func (PySem.W.fnOf "__init__" "Store.__init__" (defArgs s_Sinit) (defBody s_Sinit) (defScope s_Sinit) (.ref T_minit) kV_minit dc_minit pm_minit an_minit cd_minit ct_minit), sl_minit⟩)
    (T__minit : K.lookup T_minit = some ⟨cT_minit, dT_minit, .seq #[.ref e0] nT_minit, sT_minit⟩)
    (c_minit : PySem.W.codeIn K cd_minit "Store.__init__" = true)
    (k_minit : PySem.W.keepIn K (.ref f_minit) = true)
    (a_mput : PySem.W.findIn K (.ref C) "put" = some (some (.ref f_mput)))
    (i_mput : PySem.W.isFn K (.ref f_mput) = true)
    (l_mput : K.lookup f_mput = some ⟨oc_mput, od_mput, .func (PySem.W.fnOf "put" "Store.put" (defArgs s_Sput) (defBody s_Sput) (defScope s_Sput) .none kV_mput dc_mput pm_mput an_mput cd_mput ct_mput), sl_mput⟩)
    (c_mput : PySem.W.codeIn K cd_mput "Store.put" = true)
    (k_mput : PySem.W.keepIn K (.ref f_mput) = true)
    (a_mset : PySem.W.findIn K (.ref C) "__setitem__" = some (some (.ref f_mset)))
    (i_mset : PySem.W.isFn K (.ref f_mset) = true)
    (l_mset : K.lookup f_mset = some ⟨oc_mset, od_mset, .func (PySem.W.fnOf "__setitem__" "Store.__setitem__" (defArgs s_Sset) (defBody s_Sset) (defScope s_Sset) .none kV_mset dc_mset pm_mset an_mset cd_mset ct_mset), sl_mset⟩)
    (c_mset : PySem.W.codeIn K cd_mset "Store.__setitem__" = true)
    (k_mset : PySem.W.keepIn K (.ref f_mset) = true)
    (a_mget : PySem.W.findIn K (.ref C) "__getitem__" = some (some (.ref f_mget)))
    (i_mget : PySem.W.isFn K (.ref f_mget) = true)
    (l_mget : K.lookup f_mget = some ⟨oc_mget, od_mget, .func (PySem.W.fnOf "__getitem__" "Store.__getitem__" (defArgs s_Sget) (defBody s_Sget) (defScope s_Sget) .none kV_mget dc_mget pm_mget an_mget cd_mget ct_mget), sl_mget⟩)
    (c_mget : PySem.W.codeIn K cd_mget "Store.__getitem__" = true)
    (k_mget : PySem.W.keepIn K (.ref f_mget) = true)
    (a_min : PySem.W.findIn K (.ref C) "__contains__" = some (some (.ref f_min)))
    (i_min : PySem.W.isFn K (.ref f_min) = true)
    (l_min : K.lookup f_min = some ⟨oc_min, od_min, .func (PySem.W.fnOf "__contains__" "Store.__contains__" (defArgs s_Sin) (defBody s_Sin) (defScope s_Sin) .none kV_min dc_min pm_min an_min cd_min ct_min), sl_min⟩)
    (c_min : PySem.W.codeIn K cd_min "Store.__contains__" = true)
    (k_min : PySem.W.keepIn K (.ref f_min) = true)
    (a_mspots : PySem.W.findIn K (.ref C) "spots" = some (some (.ref f_mspots)))
    (i_mspots : PySem.W.isFn K (.ref f_mspots) = true)
    (l_mspots : K.lookup f_mspots = some ⟨oc_mspots, od_mspots, .func (PySem.W.fnOf "spots" "Store.spots" (defArgs s_Sspots) (defBody s_Sspots) (defScope s_Sspots) .none kV_mspots dc_mspots pm_mspots an_mspots cd_mspots ct_mspots), sl_mspots⟩)
    (c_mspots : PySem.W.codeIn K cd_mspots "Store.spots" = true)
    (k_mspots : PySem.W.keepIn K (.ref f_mspots) = true)
    (a_mpairs : PySem.W.findIn K (.ref C) "pairs" = some (some (.ref f_mpairs)))
    (i_mpairs : PySem.W.isFn K (.ref f_mpairs) = true)
    (l_mpairs : K.lookup f_mpairs = some ⟨oc_mpairs, od_mpairs, .func (PySem.W.fnOf "pairs" "Store.pairs" (defArgs s_Spairs) (defBody s_Spairs) (defScope s_Spairs) (.ref T_mpairs) (.ref D_mpairs) dc_mpairs pm_mpairs an_mpairs cd_mpairs ct_mpairs), sl_mpairs⟩)
    (T__mpairs : K.lookup T_mpairs = some ⟨cT_mpairs, dT_mpairs, .seq #[.str "" tk_mpairs, .none] nT_mpairs, sT_mpairs⟩)
    (D__mpairs : PySem.W.nsIn K D_mpairs "after" = some (some .none))
    (c_mpairs : PySem.W.codeIn K cd_mpairs "Store.pairs" = true)
    (k_mpairs : PySem.W.keepIn K (.ref f_mpairs) = true)
    (a_mfill : PySem.W.findIn K (.ref C) "fill" = some (some (.ref f_mfill)))
    (i_mfill : PySem.W.isFn K (.ref f_mfill) = true)
    (l_mfill : K.lookup f_mfill = some ⟨oc_mfill, od_mfill, .func (PySem.W.fnOf "fill" "Store.fill" (defArgs s_Sfill) (defBody s_Sfill) (defScope s_Sfill) .none (.ref D_mfill) dc_mfill pm_mfill an_mfill cd_mfill ct_mfill), sl_mfill⟩)
    (D__mfill : PySem.W.nsIn K D_mfill "after" = some (some .none))
    (c_mfill : PySem.W.codeIn K cd_mfill "Store.fill" = true)
    (k_mfill : PySem.W.keepIn K (.ref f_mfill) = true)
    (lE0 : K.lookup e0 = some ⟨.type "tuple", dd_e0, .seq #[] ne0, sl_e0⟩)
    (fi_get : PySem.W.fnIn K f_mget = true)
    {qc1 qc2 : Value} {qd1 qd2 : Option Addr} {vs1 vs2 : Array Value} {qs1 qs2 : Array (Option Value)} (eL : K.lookup cA20 = some ⟨qc1, qd1, .fields vs1, qs1⟩) (pL : vs1[11]? = some (.ref PL)) (eR : K.lookup cA19 = some ⟨qc2, qd2, .fields vs2, qs2⟩) (pR : vs2[11]? = some (.ref PR))
    (tL : PySem.W.tabIn K "law" = some (cA20, PL)) (tR : PySem.W.tabIn K "_law_pairs_right" = some (cA19, PR)) (oL : K.lookup PL = none) (oR : K.lookup PR = none) (pne : (PL == PR) = false) (rL : ((recsOf q).find? (fun e => e.name == ("law" : Str))).isSome = true) (rR : ((recsOf q).find? (fun e => e.name == ("_law_pairs_right" : Str))).isSome = true)
    : ∃ (fd : FuncData) (cs : List (Addr × Addr)), (∀ (s : Shared) (v : Value), BindsTo s fd ⟨[v], []⟩ [("_law_script", v)]) ∧ (∀ p ∈ cs, K.lookup p.2 = none ∧ ∃ (y : Str) (r : DefRec), (recsOf q).find? (fun e => e.name == y) = some r ∧ PySem.W.tabIn K y = some p) ∧ ∀ base : Heap, K.In base → base.Ns mainGlobals mg → (∀ p ∈ cs, LamX.TabB base mg p.1 p.2) → FnG PySem.Challenge.pw_undername_k47_stores_refused w K mg base CX0 13 fa fd ["_law_script"] (spLaw K cs) := by
  have e := hfa.symm.trans (PySem.W.mg_of X G a20)
  cases e
  have F0 := fun_mk (st := s_are_letters) l0 c0 k0
  have F1 := fun_mk (st := s_check_letters) l1 c1 k1
  have F2 := fun_mk (st := s_is_text) l2 c2 k2
  have F3 := fun_mk (st := s_need_text) l3 c3 k3
  have F4 := fun_mk (st := s_is_integer) l4 c4 k4
  have F5 := fun_mk (st := s_is_value) l5 c5 k5
  have F6 := fun_mk (st := s_need_value) l6 c6 k6
  have F7 := fun_mk (st := s_is_between) l7 c7 k7
  have F8 := fun_mk (st := s_l_deal) l8 c8 k8
  have F9 := fun_mk (st := s_l_draw) l9 c9 k9
  have F10 := fun_mk (st := s_l_pick) l10 c10 k10
  have F11 := fun_mk (st := s_l_letters) l11 c11 k11
  have F12 := fun_mk (st := s_l_text) l12 c12 k12
  have F13 := fun_mk (st := s_l_value) l13 c13 k13
  have F14 := fun_mk (st := s_l_refused) l14 c14 k14
  have F15 := fun_mk (st := s_l_put) l15 c15 k15
  have F16 := fun_mk (st := s_l_got) l16 c16 k16
  have F17 := fun_mk (st := s_l_odd_key) l17 c17 k17
  have F18 := fun_mk (st := s_l_odd_value) l18 c18 k18
  have F19 := fun_mk (st := s_l_pairs_right) l19 c19 k19
  have F20 := fun_mk (st := s_law) l20 c20 k20
  have b0 := F0.binds (ps := ["value"]) fun _ _ _ _ _ _ us hl => match us, hl with | [_], _ => rfl
  have b1 := F1.binds (ps := ["letters"]) fun _ _ _ _ _ _ us hl => match us, hl with | [_], _ => rfl
  have b2 := F2.binds (ps := ["letters", "value"]) fun _ _ _ _ _ _ us hl => match us, hl with | [_, _], _ => rfl
  have b3 := F3.binds (ps := ["letters", "value"]) fun _ _ _ _ _ _ us hl => match us, hl with | [_, _], _ => rfl
  have b4 := F4.binds (ps := ["value"]) fun _ _ _ _ _ _ us hl => match us, hl with | [_], _ => rfl
  have b5 := F5.binds (ps := ["value"]) fun _ _ _ _ _ _ us hl => match us, hl with | [_], _ => rfl
  have b6 := F6.binds (ps := ["value"]) fun _ _ _ _ _ _ us hl => match us, hl with | [_], _ => rfl
  have b7 := F7.binds (ps := ["text", "low", "high", "after"]) fun _ _ _ _ _ _ us hl => match us, hl with | [_, _, _, _], _ => rfl
  have b8 := F8.binds (ps := ["_law_script", "_law_base"]) fun _ _ _ _ _ _ us hl => match us, hl with | [_, _], _ => rfl
  have b9 := F9.binds (ps := ["_law_deal_here", "_law_many"]) fun _ _ _ _ _ _ us hl => match us, hl with | [_, _], _ => rfl
  have b10 := F10.binds (ps := ["_law_deal_here", "_law_some"]) fun _ _ _ _ _ _ us hl => match us, hl with | [_, _], _ => rfl
  have b11 := F11.binds (ps := ["_law_deal_here", "_law_most"]) fun _ _ _ _ _ _ us hl => match us, hl with | [_, _], _ => rfl
  have b12 := F12.binds (ps := ["_law_deal_here", "_law_letters_here", "_law_most"]) fun _ _ _ _ _ _ us hl => match us, hl with | [_, _, _], _ => rfl
  have b13 := F13.binds (ps := ["_law_deal_here"]) fun _ _ _ _ _ _ us hl => match us, hl with | [_], _ => rfl
  have b14 := F14.binds (ps := ["_law_work"]) fun _ _ _ _ _ _ us hl => match us, hl with | [_], _ => rfl
  have b15 := F15.binds (ps := ["_law_store", "_law_key", "_law_value_here"]) fun _ _ _ _ _ _ us hl => match us, hl with | [_, _, _], _ => rfl
  have b16 := F16.binds (ps := ["_law_store", "_law_key"]) fun _ _ _ _ _ _ us hl => match us, hl with | [_, _], _ => rfl
  have b17 := F17.binds (ps := ["_law_deal_here", "_law_letters_here"]) fun _ _ _ _ _ _ us hl => match us, hl with | [_, _], _ => rfl
  have b18 := F18.binds (ps := ["_law_deal_here"]) fun _ _ _ _ _ _ us hl => match us, hl with | [_], _ => rfl
  have b19 := F19.binds (ps := ["_law_deal_here", "_law_letters_here", "_law_pairs"]) fun _ _ _ _ _ _ us hl => match us, hl with | [_, _, _], _ => rfl
  have b20 := F20.binds (ps := ["_law_script"]) fun _ _ _ _ _ _ us hl => match us, hl with | [_], _ => rfl
  have T : Top K mg := ⟨f0, _, F0, PySem.W.mg_of X G a0, b0, f1, _, F1, PySem.W.mg_of X G a1, b1, f2, _, F2, PySem.W.mg_of X G a2, b2, f3, _, F3, PySem.W.mg_of X G a3, b3, f4, _, F4, PySem.W.mg_of X G a4, b4, f5, _, F5, PySem.W.mg_of X G a5, b5, f6, _, F6, PySem.W.mg_of X G a6, b6, f7, _, F7, PySem.W.mg_of X G a7, b7, f8, _, F8, PySem.W.mg_of X G a8, b8, f9, _, F9, PySem.W.mg_of X G a9, b9, f10, _, F10, PySem.W.mg_of X G a10, b10, f11, _, F11, PySem.W.mg_of X G a11, b11, f12, _, F12, PySem.W.mg_of X G a12, b12, f13, _, F13, PySem.W.mg_of X G a13, b13, f14, _, F14, PySem.W.mg_of X G a14, b14, f15, _, F15, PySem.W.mg_of X G a15, b15, f16, _, F16, PySem.W.mg_of X G a16, b16, f17, _, F17, PySem.W.mg_of X G a17, b17, f18, _, F18, PySem.W.mg_of X G a18, b18, f19, _, F19, PySem.W.mg_of X G a19, b19, fa, _, F20, PySem.W.mg_of X G a20, b20, PySem.W.mg_none_of X G z0, PySem.W.mg_none_of X G z1, PySem.W.mg_none_of X G z2, PySem.W.mg_none_of X G z3, PySem.W.mg_none_of X G z4, PySem.W.mg_none_of X G z5, PySem.W.mg_none_of X G z6, PySem.W.mg_none_of X G z7, PySem.W.mg_none_of X G z8, PySem.W.mg_none_of X G z9, PySem.W.mg_none_of X G z10, PySem.W.mg_none_of X G z11, PySem.W.mg_none_of X G z12⟩
  have F_minit : FunD K "__init__" "Store.__init__" (defArgs s_Sinit) (defBody s_Sinit) (defScope s_Sinit) [.ref e0] [] f_minit (PySem.W.fnOf "__init__" "Store.__init__" (defArgs s_Sinit) (defBody s_Sinit) (defScope s_Sinit) (.ref T_minit) kV_minit dc_minit pm_minit an_minit cd_minit ct_minit) := ⟨⟨_, _, _, _, _, _, _, _, _, _, rfl, l_minit, c_minit, .inr ⟨by simp, T_minit, _, [.ref e0], nT_minit, rfl, T__minit, rfl, .cons rfl .nil⟩, .inl rfl⟩, k_minit⟩
  have F_mput := fun_mk (st := s_Sput) l_mput c_mput k_mput
  have b_mput := F_mput.binds (ps := ["self", "key", "value"]) fun _ _ _ _ _ _ us hl => match us, hl with | [_, _, _], _ => rfl
  have F_mset := fun_mk (st := s_Sset) l_mset c_mset k_mset
  have b_mset := F_mset.binds (ps := ["self", "at", "worth"]) fun _ _ _ _ _ _ us hl => match us, hl with | [_, _, _], _ => rfl
  have F_mget := fun_mk (st := s_Sget) l_mget c_mget k_mget
  have b_mget := F_mget.binds (ps := ["self", "at"]) fun _ _ _ _ _ _ us hl => match us, hl with | [_, _], _ => rfl
  have F_min := fun_mk (st := s_Sin) l_min c_min k_min
  have b_min := F_min.binds (ps := ["self", "x"]) fun _ _ _ _ _ _ us hl => match us, hl with | [_, _], _ => rfl
  have F_mspots := fun_mk (st := s_Sspots) l_mspots c_mspots k_mspots
  have b_mspots := F_mspots.binds (ps := ["self", "low", "high", "after"]) fun _ _ _ _ _ _ us hl => match us, hl with | [_, _, _, _], _ => rfl
  have F_mpairs : FunD K "pairs" "Store.pairs" (defArgs s_Spairs) (defBody s_Spairs) (defScope s_Spairs) [.str (S []), .non] [("after", .non)] f_mpairs (PySem.W.fnOf "pairs" "Store.pairs" (defArgs s_Spairs) (defBody s_Spairs) (defScope s_Spairs) (.ref T_mpairs) (.ref D_mpairs) dc_mpairs pm_mpairs an_mpairs cd_mpairs ct_mpairs) := ⟨⟨_, _, _, _, _, _, _, _, _, _, rfl, l_mpairs, c_mpairs, .inr ⟨by simp, T_mpairs, _, [.str "" tk_mpairs, .none], nT_mpairs, rfl, T__mpairs, rfl, .cons ⟨_, rfl⟩ (.cons rfl .nil)⟩, .inr ⟨D_mpairs, rfl, fun q hq => by rw [List.mem_singleton.mp hq]; exact ⟨.none, D__mpairs, rfl⟩⟩⟩, k_mpairs⟩
  have F_mfill : FunD K "fill" "Store.fill" (defArgs s_Sfill) (defBody s_Sfill) (defScope s_Sfill) [] [("after", .non)] f_mfill (PySem.W.fnOf "fill" "Store.fill" (defArgs s_Sfill) (defBody s_Sfill) (defScope s_Sfill) .none (.ref D_mfill) dc_mfill pm_mfill an_mfill cd_mfill ct_mfill) := ⟨⟨_, _, _, _, _, _, _, _, _, _, rfl, l_mfill, c_mfill, .inl ⟨rfl, rfl⟩, .inr ⟨D_mfill, rfl, fun q hq => by rw [List.mem_singleton.mp hq]; exact ⟨.none, D__mfill, rfl⟩⟩⟩, k_mfill⟩
  have bI3 : ∃ ds, Vals ([V.ref e0].drop 1) ds ∧ Binds K (PySem.W.fnOf "__init__" "Store.__init__" (defArgs s_Sinit) (defBody s_Sinit) (defScope s_Sinit) (.ref T_minit) kV_minit dc_minit pm_minit an_minit cd_minit ct_minit) ["self", "letters", "pairs"] ds := F_minit.binds1 3 1 (by simp) rfl (fun T kV doc pm an cdv ct us its h1 h2 => match us, its, h1, h2 with | [_, _, _], [_], _, _ => ⟨_, rfl, rfl⟩)
  have bI3 : Binds K (PySem.W.fnOf "__init__" "Store.__init__" (defArgs s_Sinit) (defBody s_Sinit) (defScope s_Sinit) (.ref T_minit) kV_minit dc_minit pm_minit an_minit cd_minit ct_minit) ["self", "letters", "pairs"] [] := by
    obtain ⟨ds, v, b⟩ := bI3
    cases v
    exact b
  have bI2 : ∃ ds, Vals ([V.ref e0].drop 0) ds ∧ Binds K (PySem.W.fnOf "__init__" "Store.__init__" (defArgs s_Sinit) (defBody s_Sinit) (defScope s_Sinit) (.ref T_minit) kV_minit dc_minit pm_minit an_minit cd_minit ct_minit) ["self", "letters", "pairs"] ds := F_minit.binds1 2 0 (by simp) rfl (fun T kV doc pm an cdv ct us its h1 h2 => match us, its, h1, h2 with | [_, _], [_], _, _ => ⟨_, rfl, rfl⟩)
  have bP0 := F_mpairs.binds (ps := ["self", "low", "high", "after"]) 1 0 (by simp) rfl (fun T D doc pm an cdv ct us its ks h1 h2 h3 => match us, its, ks, h1, h2, h3 with | [_], [_, _], [_], _, _, _ => ⟨_, rfl, _, _, _, _, _, _, rfl, rfl, rfl⟩) (by simp)
  have bP1 := F_mpairs.binds (ps := ["self", "low", "high", "after"]) 2 1 (by simp) rfl (fun T D doc pm an cdv ct us its ks h1 h2 h3 => match us, its, ks, h1, h2, h3 with | [_, _], [_, _], [_], _, _, _ => ⟨_, rfl, _, _, _, _, _, _, rfl, rfl, rfl⟩) (by simp)
  have kPairs : KBn K (PySem.W.fnOf "pairs" "Store.pairs" (defArgs s_Spairs) (defBody s_Spairs) (defScope s_Spairs) (.ref T_mpairs) (.ref D_mpairs) dc_mpairs pm_mpairs an_mpairs cd_mpairs ct_mpairs) ["self", "low", "high", "after"] 3 ["after"] (fun us ws => us ++ ws) (fun vs zs => vs ++ zs) := by
    obtain ⟨_, _, h⟩ := F_mpairs.kbinds (ps := ["self", "low", "high", "after"]) 3 ["after"] [] (fun us _ _ ws => us ++ ws) (by simp) (by simp) (fun _ h => nomatch h) (fun a _ _ d => a.append d) (fun T D doc pm an cdv ct us its mv ws h1 h2 h3 h4 => match us, its, mv, ws, h1, h2, h3, h4 with | [_, _, _], [_, _], [], [_], _, _, _, _ => ⟨_, rfl, rfl⟩)
    exact h
  have bF0 : ∃ ds, Vals [.non] ds ∧ Binds K (PySem.W.fnOf "fill" "Store.fill" (defArgs s_Sfill) (defBody s_Sfill) (defScope s_Sfill) .none (.ref D_mfill) dc_mfill pm_mfill an_mfill cd_mfill ct_mfill) ["self", "value", "low", "high", "after"] ds := F_mfill.binds0 4 (by simp) rfl (fun D doc pm an cdv ct us ks h1 h2 => match us, ks, h1, h2 with | [_, _, _, _], [_], _, _ => ⟨_, _, _, _, _, _, rfl, rfl, rfl⟩)
  have kFill : KBn K (PySem.W.fnOf "fill" "Store.fill" (defArgs s_Sfill) (defBody s_Sfill) (defScope s_Sfill) .none (.ref D_mfill) dc_mfill pm_mfill an_mfill cd_mfill ct_mfill) ["self", "value", "low", "high", "after"] 4 ["after"] (fun us ws => us ++ ws) (fun vs zs => vs ++ zs) := ⟨fun s us ws X h1 h2 => match us, ws, h1, h2 with | [_, _, _, _], [_], _, _ => .of_eq rfl, fun r1 r2 => r1.append r2⟩
  have Ex : Exs PySem.Challenge.pw_undername_k47_stores_refused K mg := ⟨C_UnderError, PySem.W.mg_of X G A_UnderError, C_InvalidLetters, PySem.W.mg_of X G A_InvalidLetters, C_NoText, PySem.W.mg_of X G A_NoText, C_NoValue, PySem.W.mg_of X G A_NoValue, C_NoKey, PySem.W.mg_of X G A_NoKey, i_NoText, supC_of S_NoText L_NoText T_NoText, supF_mk ss_NoText F_NoText D_NoText E_NoText V_NoText W_NoText X_NoText Y_NoText, i_NoValue, supC_of S_NoValue L_NoValue T_NoValue, supF_mk ss_NoValue F_NoValue D_NoValue E_NoValue V_NoValue W_NoValue X_NoValue Y_NoValue, i_NoKey, supC_of S_NoKey L_NoKey T_NoKey, supF_mk ss_NoKey F_NoKey D_NoKey E_NoKey V_NoKey W_NoKey X_NoKey Y_NoKey, xi_InvalidLetters, kc_InvalidLetters, excC_of ec_InvalidLetters, bB_InvalidLetters, tB_InvalidLetters, excC_of ec_NoText, bB_NoText, tB_NoText, excC_of ec_NoValue, bB_NoValue, tB_NoValue, excC_of ec_NoKey, bB_NoKey, tB_NoKey, tS, PySem.W.mg_of X G zS, tF, PySem.W.mg_of X G zF, tM, PySem.W.mg_of X G zM, PySem.W.mg_none_of X G zsup, eK, kK, eU_InvalidLetters, eU_NoText, eU_NoValue, eU_NoKey, kk_InvalidLetters_InvalidLetters, kk_InvalidLetters_NoText, kk_InvalidLetters_NoValue, kk_NoText_InvalidLetters, kk_NoText_NoText, kk_NoText_NoValue, kk_NoValue_InvalidLetters, kk_NoValue_NoText, kk_NoValue_NoValue⟩
  have So : Sto K mg := ⟨C, PySem.W.mg_of X G aC, ⟨pg, hdC, po, sa⟩, nL, nT, nsq, ⟨neA, neB⟩, cA, cB, cC, cD, kS, kL, kD, fL, fD, e0, _, lE0, rfl, ne0, rfl, f_minit, _, F_minit, f_mput, _, F_mput, ⟨a_mput, i_mput, k_mput⟩, b_mput, f_mset, _, F_mset, ⟨a_mset, i_mset⟩, b_mset, f_mget, _, F_mget, ⟨a_mget, i_mget⟩, b_mget, f_min, _, F_min, ⟨a_min, i_min⟩, b_min, f_mspots, _, F_mspots, ⟨a_mspots, i_mspots, k_mspots⟩, b_mspots, f_mpairs, _, F_mpairs, ⟨a_mpairs, i_mpairs, k_mpairs⟩, f_mfill, _, F_mfill, ⟨a_mfill, i_mfill, k_mfill⟩, ⟨mk, a_minit, i_minit, kc⟩, bI3, bI2, fi_get, bP0, bP1, kPairs, bF0, kFill⟩
  have hcs : ∀ p ∈ [(cA20, PL), (cA19, PR)], K.lookup p.2 = none ∧ ∃ (y : Str) (r : DefRec), (recsOf q).find? (fun e => e.name == y) = some r ∧ PySem.W.tabIn K y = some p := by
    intro p hp
    rcases List.mem_cons.mp hp with rfl | hp
    · obtain ⟨r, hr⟩ := Option.isSome_iff_exists.mp rL
      exact ⟨oL, _, r, hr, tL⟩
    · rw [List.mem_singleton.mp hp]
      obtain ⟨r, hr⟩ := Option.isSome_iff_exists.mp rR
      exact ⟨oR, _, r, hr, tR⟩
  exact ⟨PySem.W.fnOf "law" "law" (defArgs s_law) (defBody s_law) (defScope s_law) .none kV20 dc20 pm20 an20 (.ref cA20) ct20, [(cA20, PL), (cA19, PR)], fun s v => .of_eq rfl, hcs, fun base _ _ hTB => ok_law (cc := cA20) (PP := PL) (cR := cA19) (PR := PR) ⟨f0, _, F0, PySem.W.mg_of X G a0, b0, f1, _, F1, PySem.W.mg_of X G a1, b1, f2, _, F2, PySem.W.mg_of X G a2, b2, f3, _, F3, PySem.W.mg_of X G a3, b3, f4, _, F4, PySem.W.mg_of X G a4, b4, f5, _, F5, PySem.W.mg_of X G a5, b5, f6, _, F6, PySem.W.mg_of X G a6, b6, f7, _, F7, PySem.W.mg_of X G a7, b7, f8, _, F8, PySem.W.mg_of X G a8, b8, f9, _, F9, PySem.W.mg_of X G a9, b9, f10, _, F10, PySem.W.mg_of X G a10, b10, f11, _, F11, PySem.W.mg_of X G a11, b11, f12, _, F12, PySem.W.mg_of X G a12, b12, f13, _, F13, PySem.W.mg_of X G a13, b13, f14, _, F14, PySem.W.mg_of X G a14, b14, f15, _, F15, PySem.W.mg_of X G a15, b15, f16, _, F16, PySem.W.mg_of X G a16, b16, f17, _, F17, PySem.W.mg_of X G a17, b17, f18, _, F18, PySem.W.mg_of X G a18, b18, f19, _, F19, PySem.W.mg_of X G a19, b19, fa, _, F20, PySem.W.mg_of X G a20, b20, PySem.W.mg_none_of X G z0, PySem.W.mg_none_of X G z1, PySem.W.mg_none_of X G z2, PySem.W.mg_none_of X G z3, PySem.W.mg_none_of X G z4, PySem.W.mg_none_of X G z5, PySem.W.mg_none_of X G z6, PySem.W.mg_none_of X G z7, PySem.W.mg_none_of X G z8, PySem.W.mg_none_of X G z9, PySem.W.mg_none_of X G z10, PySem.W.mg_none_of X G z11, PySem.W.mg_none_of X G z12⟩ ⟨C_UnderError, PySem.W.mg_of X G A_UnderError, C_InvalidLetters, PySem.W.mg_of X G A_InvalidLetters, C_NoText, PySem.W.mg_of X G A_NoText, C_NoValue, PySem.W.mg_of X G A_NoValue, C_NoKey, PySem.W.mg_of X G A_NoKey, i_NoText, supC_of S_NoText L_NoText T_NoText, supF_mk ss_NoText F_NoText D_NoText E_NoText V_NoText W_NoText X_NoText Y_NoText, i_NoValue, supC_of S_NoValue L_NoValue T_NoValue, supF_mk ss_NoValue F_NoValue D_NoValue E_NoValue V_NoValue W_NoValue X_NoValue Y_NoValue, i_NoKey, supC_of S_NoKey L_NoKey T_NoKey, supF_mk ss_NoKey F_NoKey D_NoKey E_NoKey V_NoKey W_NoKey X_NoKey Y_NoKey, xi_InvalidLetters, kc_InvalidLetters, excC_of ec_InvalidLetters, bB_InvalidLetters, tB_InvalidLetters, excC_of ec_NoText, bB_NoText, tB_NoText, excC_of ec_NoValue, bB_NoValue, tB_NoValue, excC_of ec_NoKey, bB_NoKey, tB_NoKey, tS, PySem.W.mg_of X G zS, tF, PySem.W.mg_of X G zF, tM, PySem.W.mg_of X G zM, PySem.W.mg_none_of X G zsup, eK, kK, eU_InvalidLetters, eU_NoText, eU_NoValue, eU_NoKey, kk_InvalidLetters_InvalidLetters, kk_InvalidLetters_NoText, kk_InvalidLetters_NoValue, kk_NoText_InvalidLetters, kk_NoText_NoText, kk_NoText_NoValue, kk_NoValue_InvalidLetters, kk_NoValue_NoText, kk_NoValue_NoValue⟩ ⟨C, PySem.W.mg_of X G aC, ⟨pg, hdC, po, sa⟩, nL, nT, nsq, ⟨neA, neB⟩, cA, cB, cC, cD, kS, kL, kD, fL, fD, e0, _, lE0, rfl, ne0, rfl, f_minit, _, F_minit, f_mput, _, F_mput, ⟨a_mput, i_mput, k_mput⟩, b_mput, f_mset, _, F_mset, ⟨a_mset, i_mset⟩, b_mset, f_mget, _, F_mget, ⟨a_mget, i_mget⟩, b_mget, f_min, _, F_min, ⟨a_min, i_min⟩, b_min, f_mspots, _, F_mspots, ⟨a_mspots, i_mspots, k_mspots⟩, b_mspots, f_mpairs, _, F_mpairs, ⟨a_mpairs, i_mpairs, k_mpairs⟩, f_mfill, _, F_mfill, ⟨a_mfill, i_mfill, k_mfill⟩, ⟨mk, a_minit, i_minit, kc⟩, bI3, bI2, fi_get, bP0, bP1, kPairs, bF0, kFill⟩ rfl (hTB _ List.mem_cons_self) rfl (hTB _ (List.mem_cons_of_mem _ List.mem_cons_self)) (fun z => by rw [z] at pne; simp at pne)⟩
end K47
open PySem PySem.W PyProof.Rows
set_option maxHeartbeats 0 in
theorem PySem.Challenge.cw_undername_k47_stores_refused_holds : PySem.Challenge.rw_undername_k47_stores_refused.Holds := by
  w_on; o_law; k_head; (case hw => w_witness2)
  k_fill
  refine U.walk_ofGT (l := PySem.Challenge.rw_undername_k47_stores_refused) (n := 63) (k := 13) (x := "_law_script") (CX := fun _ => L2.CX0) (sp := fun w cs => K47.spLaw _ cs) rfl (by decide) rfl ⟨rfl, by decide, by decide⟩ (fun w h Y => PySem.W.km_in_of Y) ?F (fun _ cs H a ns hl hT hS => ⟨a, ns, rfl, hS, hl, hT, fun _ => rfl⟩) (fun _ _ _ _ _ h => h)
  case F =>
    intro w mg fa h KX G hmg
    refine' K47.all_mk KX G hmg ?a0 ?l0 ?c0 ?k0 ?a1 ?l1 ?c1 ?k1 ?a2 ?l2 ?c2 ?k2 ?a3 ?l3 ?c3 ?k3 ?a4 ?l4 ?c4 ?k4 ?a5 ?l5 ?c5 ?k5 ?a6 ?l6 ?c6 ?k6 ?a7 ?l7 ?c7 ?k7 ?a8 ?l8 ?c8 ?k8 ?a9 ?l9 ?c9 ?k9 ?a10 ?l10 ?c10 ?k10 ?a11 ?l11 ?c11 ?k11 ?a12 ?l12 ?c12 ?k12 ?a13 ?l13 ?c13 ?k13 ?a14 ?l14 ?c14 ?k14 ?a15 ?l15 ?c15 ?k15 ?a16 ?l16 ?c16 ?k16 ?a17 ?l17 ?c17 ?k17 ?a18 ?l18 ?c18 ?k18 ?a19 ?l19 ?c19 ?k19 ?a20 ?l20 ?c20 ?k20 ?z0 ?z1 ?z2 ?z3 ?z4 ?z5 ?z6 ?z7 ?z8 ?z9 ?z10 ?z11 ?z12 ?A_UnderError ?A_InvalidLetters ?A_NoText ?A_NoValue ?A_NoKey ?I_NoText ?L_NoText ?T_NoText ?S_NoText ?F_NoText ?D_NoText ?E_NoText ?V_NoText ?W_NoText ?X_NoText ?Y_NoText ?I_NoValue ?L_NoValue ?T_NoValue ?S_NoValue ?F_NoValue ?D_NoValue ?E_NoValue ?V_NoValue ?W_NoValue ?X_NoValue ?Y_NoValue ?I_NoKey ?L_NoKey ?T_NoKey ?S_NoKey ?F_NoKey ?D_NoKey ?E_NoKey ?V_NoKey ?W_NoKey ?X_NoKey ?Y_NoKey ?xi_InvalidLetters ?kc_InvalidLetters ?ec_InvalidLetters ?bB_InvalidLetters ?tB_InvalidLetters ?ec_NoText ?bB_NoText ?tB_NoText ?ec_NoValue ?bB_NoValue ?tB_NoValue ?ec_NoKey ?bB_NoKey ?tB_NoKey ?zS ?zF ?zM ?zsup ?eK ?kK ?eU_InvalidLetters ?eU_NoText ?eU_NoValue ?eU_NoKey ?kk_InvalidLetters_InvalidLetters ?kk_InvalidLetters_NoText ?kk_InvalidLetters_NoValue ?kk_NoText_InvalidLetters ?kk_NoText_NoText ?kk_NoText_NoValue ?kk_NoValue_InvalidLetters ?kk_NoValue_NoText ?kk_NoValue_NoValue ?aC ?pg ?hdC ?po ?sa ?mk ?kc ?nL ?nT ?nsq ?neA ?neB ?cA ?cB ?cC ?cD ?kS ?kL ?kD ?fL ?fD ?a_minit ?i_minit ?l_minit ?T__minit ?c_minit ?k_minit ?a_mput ?i_mput ?l_mput ?c_mput ?k_mput ?a_mset ?i_mset ?l_mset ?c_mset ?k_mset ?a_mget ?i_mget ?l_mget ?c_mget ?k_mget ?a_min ?i_min ?l_min ?c_min ?k_min ?a_mspots ?i_mspots ?l_mspots ?c_mspots ?k_mspots ?a_mpairs ?i_mpairs ?l_mpairs ?T__mpairs ?D__mpairs ?c_mpairs ?k_mpairs ?a_mfill ?i_mfill ?l_mfill ?D__mfill ?c_mfill ?k_mfill ?lE0 ?fi_get ?eL ?pL ?eR ?pR ?tL ?tR ?oL ?oR ?pne ?rL ?rR
    (case a0 => k_is)
    (case l0 => k_is)
    (case c0 => k_is)
    (case k0 => k_is)
    (case a1 => k_is)
    (case l1 => k_is)
    (case c1 => k_is)
    (case k1 => k_is)
    (case a2 => k_is)
    (case l2 => k_is)
    (case c2 => k_is)
    (case k2 => k_is)
    (case a3 => k_is)
    (case l3 => k_is)
    (case c3 => k_is)
    (case k3 => k_is)
    (case a4 => k_is)
    (case l4 => k_is)
    (case c4 => k_is)
    (case k4 => k_is)
    (case a5 => k_is)
    (case l5 => k_is)
    (case c5 => k_is)
    (case k5 => k_is)
    (case a6 => k_is)
    (case l6 => k_is)
    (case c6 => k_is)
    (case k6 => k_is)
    (case a7 => k_is)
    (case l7 => k_is)
    (case c7 => k_is)
    (case k7 => k_is)
    (case a8 => k_is)
    (case l8 => k_is)
    (case c8 => k_is)
    (case k8 => k_is)
    (case a9 => k_is)
    (case l9 => k_is)
    (case c9 => k_is)
    (case k9 => k_is)
    (case a10 => k_is)
    (case l10 => k_is)
    (case c10 => k_is)
    (case k10 => k_is)
    (case a11 => k_is)
    (case l11 => k_is)
    (case c11 => k_is)
    (case k11 => k_is)
    (case a12 => k_is)
    (case l12 => k_is)
    (case c12 => k_is)
    (case k12 => k_is)
    (case a13 => k_is)
    (case l13 => k_is)
    (case c13 => k_is)
    (case k13 => k_is)
    (case a14 => k_is)
    (case l14 => k_is)
    (case c14 => k_is)
    (case k14 => k_is)
    (case a15 => k_is)
    (case l15 => k_is)
    (case c15 => k_is)
    (case k15 => k_is)
    (case a16 => k_is)
    (case l16 => k_is)
    (case c16 => k_is)
    (case k16 => k_is)
    (case a17 => k_is)
    (case l17 => k_is)
    (case c17 => k_is)
    (case k17 => k_is)
    (case a18 => k_is)
    (case l18 => k_is)
    (case c18 => k_is)
    (case k18 => k_is)
    (case a19 => k_is)
    (case l19 => k_is)
    (case c19 => k_is)
    (case k19 => k_is)
    (case a20 => k_is)
    (case l20 => k_is)
    (case c20 => k_is)
    (case k20 => k_is)
    (case z0 => k_is)
    (case z1 => k_is)
    (case z2 => k_is)
    (case z3 => k_is)
    (case z4 => k_is)
    (case z5 => k_is)
    (case z6 => k_is)
    (case z7 => k_is)
    (case z8 => k_is)
    (case z9 => k_is)
    (case z10 => k_is)
    (case z11 => k_is)
    (case z12 => k_is)
    (case A_UnderError => k_is)
    (case A_InvalidLetters => k_is)
    (case A_NoText => k_is)
    (case A_NoValue => k_is)
    (case A_NoKey => k_is)
    (case I_NoText => k_is)
    (case L_NoText => k_is)
    (case T_NoText => kernel_rfl)
    (case S_NoText => kernel_rfl)
    (case F_NoText => k_is)
    (case D_NoText => k_is)
    (case E_NoText => k_is)
    (case V_NoText => rfl)
    (case W_NoText => kernel_rfl)
    (case X_NoText => k_is)
    (case Y_NoText => k_is)
    (case I_NoValue => k_is)
    (case L_NoValue => k_is)
    (case T_NoValue => kernel_rfl)
    (case S_NoValue => kernel_rfl)
    (case F_NoValue => k_is)
    (case D_NoValue => k_is)
    (case E_NoValue => k_is)
    (case V_NoValue => rfl)
    (case W_NoValue => kernel_rfl)
    (case X_NoValue => k_is)
    (case Y_NoValue => k_is)
    (case I_NoKey => k_is)
    (case L_NoKey => k_is)
    (case T_NoKey => kernel_rfl)
    (case S_NoKey => kernel_rfl)
    (case F_NoKey => k_is)
    (case D_NoKey => k_is)
    (case E_NoKey => k_is)
    (case V_NoKey => rfl)
    (case W_NoKey => kernel_rfl)
    (case X_NoKey => k_is)
    (case Y_NoKey => k_is)
    (case xi_InvalidLetters => k_exc)
    (case kc_InvalidLetters => k_is)
    (case ec_InvalidLetters => kernel_rfl)
    (case bB_InvalidLetters => k_is)
    (case tB_InvalidLetters => k_is)
    (case ec_NoText => kernel_rfl)
    (case bB_NoText => k_is)
    (case tB_NoText => k_is)
    (case ec_NoValue => kernel_rfl)
    (case bB_NoValue => k_is)
    (case tB_NoValue => k_is)
    (case ec_NoKey => kernel_rfl)
    (case bB_NoKey => k_is)
    (case tB_NoKey => k_is)
    (case zS => k_is)
    (case zF => k_is)
    (case zM => k_is)
    (case zsup => k_is)
    (case eK => kernel_rfl)
    (case kK => kernel_rfl)
    (case eU_InvalidLetters => kernel_rfl)
    (case eU_NoText => kernel_rfl)
    (case eU_NoValue => kernel_rfl)
    (case eU_NoKey => kernel_rfl)
    (case kk_InvalidLetters_InvalidLetters => kernel_rfl)
    (case kk_InvalidLetters_NoText => kernel_rfl)
    (case kk_InvalidLetters_NoValue => kernel_rfl)
    (case kk_NoText_InvalidLetters => kernel_rfl)
    (case kk_NoText_NoText => kernel_rfl)
    (case kk_NoText_NoValue => kernel_rfl)
    (case kk_NoValue_InvalidLetters => kernel_rfl)
    (case kk_NoValue_NoText => kernel_rfl)
    (case kk_NoValue_NoValue => kernel_rfl)
    (case aC => k_is)
    (case pg => k_is)
    (case hdC => k_is)
    (case po => k_is)
    (case sa => k_is)
    (case mk => k_is)
    (case kc => k_is)
    (case nL => k_is)
    (case nT => k_is)
    (case nsq => kernel_rfl)
    (case neA => k_is)
    (case neB => k_is)
    (case cA => k_is)
    (case cB => kernel_rfl)
    (case cC => kernel_rfl)
    (case cD => kernel_rfl)
    (case kS => kernel_rfl)
    (case kL => kernel_rfl)
    (case kD => kernel_rfl)
    (case fL => kernel_rfl)
    (case fD => kernel_rfl)
    (case a_minit => k_is)
    (case i_minit => k_is)
    (case l_minit => k_is)
    (case T__minit => k_is)
    (case c_minit => k_is)
    (case k_minit => k_is)
    (case a_mput => k_is)
    (case i_mput => k_is)
    (case l_mput => k_is)
    (case c_mput => k_is)
    (case k_mput => k_is)
    (case a_mset => k_is)
    (case i_mset => k_is)
    (case l_mset => k_is)
    (case c_mset => k_is)
    (case k_mset => k_is)
    (case a_mget => k_is)
    (case i_mget => k_is)
    (case l_mget => k_is)
    (case c_mget => k_is)
    (case k_mget => k_is)
    (case a_min => k_is)
    (case i_min => k_is)
    (case l_min => k_is)
    (case c_min => k_is)
    (case k_min => k_is)
    (case a_mspots => k_is)
    (case i_mspots => k_is)
    (case l_mspots => k_is)
    (case c_mspots => k_is)
    (case k_mspots => k_is)
    (case a_mpairs => k_is)
    (case i_mpairs => k_is)
    (case l_mpairs => k_is)
    (case T__mpairs => k_is)
    (case D__mpairs => k_is)
    (case c_mpairs => k_is)
    (case k_mpairs => k_is)
    (case a_mfill => k_is)
    (case i_mfill => k_is)
    (case l_mfill => k_is)
    (case D__mfill => k_is)
    (case c_mfill => k_is)
    (case k_mfill => k_is)
    (case lE0 => k_is)
    (case fi_get => k_is)
    (case eL => k_is)
    (case pL => rfl)
    (case eR => k_is)
    (case pR => rfl)
    (case tL => kernel_rfl)
    (case tR => kernel_rfl)
    (case oL => kernel_rfl)
    (case oR => kernel_rfl)
    (case pne => rfl)
    (case rL => kernel_rfl)
    (case rR => kernel_rfl)
#print axioms PySem.Challenge.cw_undername_k47_stores_refused_holds
