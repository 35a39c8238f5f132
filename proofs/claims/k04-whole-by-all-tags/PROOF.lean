import PyProof.Rows.All
import Wide.All
import OpenK.AllK
import Wide.FinOn
import HandS.ForMost
import HandS.Evl
import HandS.Walk
import HandS.Zip
import HandS.TupAny
import HandS.Deep
import HandS.SortInts
import HandS.Style
import HandS.IsInst
import KE.GoesEnum
import HandS.Strs
import HandS.TupMul
import PyProof.P3In
import KE.KDictKeyed
import KE.KDictWalk
import HandS.TupLen
import HandS.DictComp
import HandS.ForDict
import HandS.Words
import HandS.More
import HandS.Lambda
import KE.SortKeyHeap
import KE.SortData
import HandS.SortOrd
import KE.KDictPairs
import PyProof.ReprRoads
import PyProof.CallFns
import KE.KExcSuper
import HandS.ExcInit
import HandS.ExcSuper
import HandS.ExcField
import HandS.Nested
import HandS.TryMany
import HandS.WordsExc
import HandS.EndTab
import HandS.HeadWalk
import KE.KNestM
import HandS.HeadHook1
import PySem.Challenge.RW_behindboth_k04_the_whole_by_all_tags
set_option Elab.async false
set_option linter.all false
set_option maxRecDepth 100000
set_option maxHeartbeats 4000000
/-! K1: what readings give as data: Dp under extension, ED, EI, comprehensions and loops over data. -/
namespace L2
open PySem Evl
section
variable {K : PySem.W.Frag} {H H' : Hp}
theorem DpAll.length : ∀ {vs : List V} {ds : List PyData}, DpAll K H vs ds → vs.length = ds.length
  | _, _, .nil => rfl
  | _, _, .cons _ t => congrArg Nat.succ (DpAll.length t)
theorem DpAll.get : ∀ {vs : List V} {ds : List PyData} {i : Nat} {v : V}, DpAll K H vs ds → vs[i]? = some v → ∃ d, ds[i]? = some d ∧ Dp K H v d
  | _, _, _, _, .nil, e => by simp at e
  | _, _, 0, _, .cons h _, e => by simp at e; subst e; exact ⟨_, rfl, h⟩
  | _, _, i + 1, v, .cons _ t, e => by
    obtain ⟨d, a, b⟩ := DpAll.get (i := i) (v := v) t (by simpa using e)
    exact ⟨d, by simpa using a, b⟩
theorem DpAll.getD : ∀ {vs : List V} {ds : List PyData} {i : Nat} {d : PyData}, DpAll K H vs ds → ds[i]? = some d → ∃ v, vs[i]? = some v ∧ Dp K H v d
  | _, _, _, _, .nil, e => by simp at e
  | _, _, 0, _, .cons h _, e => by simp at e; subst e; exact ⟨_, rfl, h⟩
  | _, _, i + 1, d, .cons _ t, e => by
    obtain ⟨v, a, b⟩ := DpAll.getD (i := i) (d := d) t (by simpa using e)
    exact ⟨v, by simpa using a, b⟩
theorem DpAll.app : ∀ {xs ys : List V} {ds es : List PyData}, DpAll K H xs ds → DpAll K H ys es → DpAll K H (xs ++ ys) (ds ++ es)
  | _, _, _, _, .nil, s => s
  | _, _, _, _, .cons r t, s => .cons r (DpAll.app t s)
theorem DpAll.take : ∀ {xs : List V} {ds : List PyData} (n : Nat), DpAll K H xs ds → DpAll K H (xs.take n) (ds.take n)
  | _, _, 0, _ => .nil
  | _, _, _ + 1, .nil => .nil
  | _, _, n + 1, .cons r t => .cons r (DpAll.take n t)
theorem DpAll.drop : ∀ {xs : List V} {ds : List PyData} (n : Nat), DpAll K H xs ds → DpAll K H (xs.drop n) (ds.drop n)
  | _, _, 0, h => h
  | _, _, _ + 1, .nil => .nil
  | _, _, n + 1, .cons _ t => DpAll.drop n t
end
end L2
namespace BB
open PySem L2 Evl
/-! ### data under extension -/
mutual
theorem dp_ex {K : PySem.W.Frag} {H H' : Hp} (e : Ex H H') : ∀ (d : PyData) (v : V), Dp K H v d → Dp K H' v d
  | _, _, .non => .non
  | _, _, .bl b => .bl b
  | _, _, .int i => .int i
  | _, _, .str x => .str x
  | .list ds, _, .lst h a => .lst (ex_l e h) (dpa_ex e ds _ a)
  | .tuple ds, _, .tup h a => .tup (ex_t e h) (dpa_ex e ds _ a)
theorem dpa_ex {K : PySem.W.Frag} {H H' : Hp} (e : Ex H H') : ∀ (ds : List PyData) (vs : List V), DpAll K H vs ds → DpAll K H' vs ds
  | [], _, .nil => .nil
  | d :: ds, _, .cons h t => .cons (dp_ex e d _ h) (dpa_ex e ds _ t)
end
section
variable {K : PySem.W.Frag} {H H' : Hp}
theorem _root_.L2.Dp.ex {v : V} {d : PyData} (h : Dp K H v d) (e : Ex H H') : Dp K H' v d := dp_ex e d v h
theorem _root_.L2.DpAll.ex {vs : List V} {ds : List PyData} (h : DpAll K H vs ds) (e : Ex H H') : DpAll K H' vs ds := dpa_ex e ds vs h
theorem dp_int {v : V} {i : Int} (h : Dp K H v (.int i)) : v = .int i := by cases h; rfl
theorem dp_bl {v : V} {b : Bool} (h : Dp K H v (.bool b)) : v = .bl b := by cases h; rfl
theorem dp_non {v : V} (h : Dp K H v .none) : v = .non := by cases h; rfl
theorem dp_str {v : V} {x : Str} (h : Dp K H v (.str x)) : v = .str x := by cases h; rfl
theorem dp_tup {v : V} {ds : List PyData} (h : Dp K H v (.tuple ds)) : ∃ a xs, v = .ref a ∧ SqT K H a xs ∧ DpAll K H xs ds := by
  cases h with | tup h1 h2 => exact ⟨_, _, rfl, h1, h2⟩
theorem dp_lst {v : V} {ds : List PyData} (h : Dp K H v (.list ds)) : ∃ a xs, v = .ref a ∧ SqL K H a xs ∧ DpAll K H xs ds := by
  cases h with | lst h1 h2 => exact ⟨_, _, rfl, h1, h2⟩
theorem dpa1 {vs : List V} {a : PyData} (h : DpAll K H vs [a]) : ∃ x, vs = [x] ∧ Dp K H x a := by
  cases h with | cons h t => cases t; exact ⟨_, rfl, h⟩
theorem dpa2 {vs : List V} {a b : PyData} (h : DpAll K H vs [a, b]) : ∃ x y, vs = [x, y] ∧ Dp K H x a ∧ Dp K H y b := by
  cases h with | cons h t => obtain ⟨y, rfl, g⟩ := dpa1 t; exact ⟨_, _, rfl, h, g⟩
theorem dpa3 {vs : List V} {a b c : PyData} (h : DpAll K H vs [a, b, c]) : ∃ x y z, vs = [x, y, z] ∧ Dp K H x a ∧ Dp K H y b ∧ Dp K H z c := by
  cases h with | cons h t => obtain ⟨y, z, rfl, g⟩ := dpa2 t; exact ⟨_, _, _, rfl, h, g⟩
theorem dpa4 {vs : List V} {a b c d : PyData} (h : DpAll K H vs [a, b, c, d]) : ∃ x y z u, vs = [x, y, z, u] ∧ Dp K H x a ∧ Dp K H y b ∧ Dp K H z c ∧ Dp K H u d := by
  cases h with | cons h t => obtain ⟨y, z, u, rfl, g⟩ := dpa3 t; exact ⟨_, _, _, _, rfl, h, g⟩
theorem dpa5 {vs : List V} {a b c d f : PyData} (h : DpAll K H vs [a, b, c, d, f]) : ∃ x y z u t, vs = [x, y, z, u, t] ∧ Dp K H x a ∧ Dp K H y b ∧ Dp K H z c ∧ Dp K H u d ∧ Dp K H t f := by
  cases h with | cons h t => obtain ⟨y, z, u, t, rfl, g⟩ := dpa4 t; exact ⟨_, _, _, _, _, rfl, h, g⟩
theorem dpa6 {vs : List V} {a b c d f k : PyData} (h : DpAll K H vs [a, b, c, d, f, k]) : ∃ x y z u t s, vs = [x, y, z, u, t, s] ∧ Dp K H x a ∧ Dp K H y b ∧ Dp K H z c ∧ Dp K H u d ∧ Dp K H t f ∧ Dp K H s k := by
  cases h with | cons h t => obtain ⟨y, z, u, t, s, rfl, g⟩ := dpa5 t; exact ⟨_, _, _, _, _, _, rfl, h, g⟩
/-- lists of ints, bools -/
theorem dpa_ints : ∀ {ns : List Int} {vs : List V}, DpAll K H vs (ns.map PyData.int) → vs = ns.map V.int
  | [], _, .nil => rfl
  | n :: ns, _, .cons h t => by rw [dp_int h, dpa_ints t]; rfl
theorem ints_dpa : ∀ (ns : List Int), DpAll K H (ns.map V.int) (ns.map PyData.int)
  | [] => .nil
  | n :: ns => .cons (.int n) (ints_dpa ns)
theorem dpa_bls : ∀ {bs : List Bool} {vs : List V}, DpAll K H vs (bs.map PyData.bool) → vs = bs.map V.bl
  | [], _, .nil => rfl
  | n :: ns, _, .cons h t => by rw [dp_bl h, dpa_bls t]; rfl
end
/-! ### data without a list or a bool: it stays where tuples stay; == is equality -/
mutual
def tupled : PyData → Bool
  | .none => true
  | .int _ => true
  | .str x => PyData.canLay0 (.str x)
  | .tuple xs => tupledAll xs
  | _ => false
def tupledAll : List PyData → Bool
  | [] => true
  | x :: xs => tupled x && tupledAll xs
end
mutual
/-- data without a list -/
def stay : PyData → Bool
  | .none => true
  | .bool _ => true
  | .int _ => true
  | .str _ => true
  | .tuple xs => stayAll xs
  | _ => false
def stayAll : List PyData → Bool
  | [] => true
  | x :: xs => stay x && stayAll xs
end
mutual
theorem stay_tupled : ∀ d : PyData, tupled d = true → stay d = true
  | .none, _ => rfl
  | .int _, _ => rfl
  | .str x, _ => rfl
  | .tuple xs, h => by
    have := stayAll_tupled xs (by simpa [tupled] using h)
    simpa [stay] using this
  | .bool _, h => rfl
  | .list _, h => by simp [tupled] at h
  | .dict _, h => by simp [tupled] at h
theorem stayAll_tupled : ∀ d : List PyData, tupledAll d = true → stayAll d = true
  | [], _ => rfl
  | x :: xs, h => by
    have h1 : tupled x = true ∧ tupledAll xs = true := by simpa [tupledAll] using h
    simp [stayAll, stay_tupled x h1.1, stayAll_tupled xs h1.2]
end
theorem stayAll_iff : ∀ {ds : List PyData}, stayAll ds = true ↔ ∀ d ∈ ds, stay d = true
  | [] => by simp [stayAll]
  | x :: xs => by simp [stayAll, stayAll_iff (ds := xs)]
theorem stay_ints (ns : List Int) : stay (.tuple (ns.map PyData.int)) = true := stayAll_iff.mpr fun d h => by
  obtain ⟨n, _, rfl⟩ := List.mem_map.mp h
  rfl
/-- tuples stay -/
def TK (H H' : Hp) : Prop := ∀ a xs, Rd H a (.tup xs) → Rd H' a (.tup xs)
theorem TK.of_ex {H H' : Hp} (e : Ex H H') : TK H H' := fun _ _ h => ex_rd e h
theorem TK.trans {H H1 H2 : Hp} (a : TK H H1) (b : TK H1 H2) : TK H H2 := fun p xs h => b p xs (a p xs h)
theorem TK.upd_lst {H : Hp} {l : Addr} {xs : List V} {o : HO} (h : H l = some (.lst xs)) : TK H (upd H l o) := fun a ys r => by
  have ne : a ≠ l := by
    rintro rfl
    rcases r with r | ⟨_, r⟩ <;> (rw [h] at r; cases r)
  rcases r with r | ⟨z, r⟩
  · exact .inl (by rw [upd_ne ne]; exact r)
  · exact .inr ⟨z, by rw [upd_ne ne]; exact r⟩
theorem TK.upd_dk {H : Hp} {l : Addr} {xs : List (Key × V)} {o : HO} (h : H l = some (.dK xs)) : TK H (upd H l o) := fun a ys r => by
  have ne : a ≠ l := by
    rintro rfl
    rcases r with r | ⟨_, r⟩ <;> (rw [h] at r; cases r)
  rcases r with r | ⟨z, r⟩
  · exact .inl (by rw [upd_ne ne]; exact r)
  · exact .inr ⟨z, by rw [upd_ne ne]; exact r⟩
mutual
theorem dp_tk {K : PySem.W.Frag} {H H' : Hp} (e : TK H H') : ∀ (d : PyData) (v : V), stay d = true → Dp K H v d → Dp K H' v d
  | _, _, _, .non => .non
  | _, _, _, .bl b => .bl b
  | _, _, _, .int i => .int i
  | _, _, _, .str x => .str x
  | .list ds, _, t, .lst h a => by simp [stay] at t
  | .tuple ds, _, t, .tup h a => .tup (h.imp (fun r => e _ _ r) id) (dpa_tk e ds _ (by simpa [stay] using t) a)
theorem dpa_tk {K : PySem.W.Frag} {H H' : Hp} (e : TK H H') : ∀ (ds : List PyData) (vs : List V), stayAll ds = true → DpAll K H vs ds → DpAll K H' vs ds
  | [], _, _, .nil => .nil
  | d :: ds, _, t, .cons h r => by
    have t' : stay d = true ∧ stayAll ds = true := by simpa [stayAll] using t
    exact .cons (dp_tk e d _ t'.1 h) (dpa_tk e ds _ t'.2 r)
end
mutual
theorem eqv_tupled : ∀ (d e : PyData), tupled d = true → tupled e = true → (PyData.eqv d e = true ↔ d = e)
  | .none, .none, _, _ => by simp [PyData.eqv]
  | .int i, .int j, _, _ => by simp [PyData.eqv]
  | .str i, .str j, _, _ => by simp [PyData.eqv]
  | .tuple xs, .tuple ys, h, h' => by
    have := eqvAll_tupled xs ys (by simpa [tupled] using h) (by simpa [tupled] using h')
    simp [PyData.eqv, this]
  | .none, .int _, _, _ => by simp [PyData.eqv]
  | .none, .str _, _, _ => by simp [PyData.eqv]
  | .none, .tuple _, _, _ => by simp [PyData.eqv]
  | .int _, .none, _, _ => by simp [PyData.eqv]
  | .int _, .str _, _, _ => by simp [PyData.eqv]
  | .int _, .tuple _, _, _ => by simp [PyData.eqv]
  | .str _, .none, _, _ => by simp [PyData.eqv]
  | .str _, .int _, _, _ => by simp [PyData.eqv]
  | .str _, .tuple _, _, _ => by simp [PyData.eqv]
  | .tuple _, .none, _, _ => by simp [PyData.eqv]
  | .tuple _, .int _, _, _ => by simp [PyData.eqv]
  | .tuple _, .str _, _, _ => by simp [PyData.eqv]
  | .bool _, _, h, _ => by simp [tupled] at h
  | .list _, _, h, _ => by simp [tupled] at h
  | .dict _, _, h, _ => by simp [tupled] at h
  | _, .bool _, _, h => by simp [tupled] at h
  | _, .list _, _, h => by simp [tupled] at h
  | _, .dict _, _, h => by simp [tupled] at h
theorem eqvAll_tupled : ∀ (d e : List PyData), tupledAll d = true → tupledAll e = true → (PyData.eqvAll d e = true ↔ d = e)
  | [], [], _, _ => by simp [PyData.eqvAll]
  | [], _ :: _, _, _ => by simp [PyData.eqvAll]
  | _ :: _, [], _, _ => by simp [PyData.eqvAll]
  | x :: xs, y :: ys, h, h' => by
    have h1 : tupled x = true ∧ tupledAll xs = true := by simpa [tupledAll] using h
    have h2 : tupled y = true ∧ tupledAll ys = true := by simpa [tupledAll] using h'
    have a := eqv_tupled x y h1.1 h2.1
    have b := eqvAll_tupled xs ys h1.2 h2.2
    simp [PyData.eqvAll, a, b]
end
mutual
theorem lay_tupled : ∀ d : PyData, tupled d = true → d.canLay0 = true
  | .none, _ => rfl
  | .int _, _ => rfl
  | .str x, h => by simpa [tupled] using h
  | .tuple xs, h => by
    have := layAll_tupled xs (by simpa [tupled] using h)
    simpa [PyData.canLay0] using this
  | .bool _, h => by simp [tupled] at h
  | .list _, h => by simp [tupled] at h
  | .dict _, h => by simp [tupled] at h
theorem layAll_tupled : ∀ d : List PyData, tupledAll d = true → PyData.canLayAll0 d = true
  | [], _ => rfl
  | x :: xs, h => by
    have h1 : tupled x = true ∧ tupledAll xs = true := by simpa [tupledAll] using h
    simp [PyData.canLayAll0, lay_tupled x h1.1, layAll_tupled xs h1.2]
end
theorem tupledAll_iff : ∀ {ds : List PyData}, tupledAll ds = true ↔ ∀ d ∈ ds, tupled d = true
  | [] => by simp [tupledAll]
  | x :: xs => by simp [tupledAll, tupledAll_iff (ds := xs)]
theorem tupled_tup {ds : List PyData} (h : ∀ d ∈ ds, tupled d = true) : tupled (.tuple ds) = true := by
  show tupledAll ds = true
  exact tupledAll_iff.mpr h
/-! ### what readings give -/
/-- te gives the data d -/
def ED (K : PySem.W.Frag) (te : TE) (σ : L2.St) (H : Hp) (d : PyData) : Prop := ∀ H1, Ex H H1 → ∀ Q : VK, (∀ v H2, Ex H1 H2 → Dp K H2 v d → Q v H2) → te σ H1 Q
def EDs (K : PySem.W.Frag) (ta : TA) (σ : L2.St) (H : Hp) (ds : List PyData) : Prop := ∀ H1, Ex H H1 → ∀ Q : List V → Hp → Prop, (∀ vs H2, Ex H1 H2 → DpAll K H2 vs ds → Q vs H2) → ta σ H1 Q
/-- an operation on data, a call on data -/
def RD (K : PySem.W.Frag) (r : R2) (a b c : PyData) : Prop := ∀ H x y, Dp K H x a → Dp K H y b → ∀ Q : VK, (∀ v H2, Ex H H2 → Dp K H2 v c → Q v H2) → r x y H Q
def RCD (K : PySem.W.Frag) (r : List V → Hp → VK → Prop) (ds : List PyData) (c : PyData) : Prop := ∀ H vs, DpAll K H vs ds → ∀ Q : VK, (∀ v H2, Ex H H2 → Dp K H2 v c → Q v H2) → r vs H Q
section
variable {K : PySem.W.Frag} {σ : L2.St} {H H' : Hp} {ta tb tc te : TE} {t u : TT} {tl : TA} {a b c d : PyData} {ds : List PyData} {r : R2} {v : V}
theorem ED.mono (h : ED K te σ H d) (e : Ex H H') : ED K te σ H' d := fun H1 e1 => h H1 (e.trans e1)
theorem ED.is (h : ED K te σ H a) (e : a = b) : ED K te σ H b := e ▸ h
theorem ET.is {x y : Bool} (h : EvT t σ H x) (e : x = y) : EvT t σ H y := e ▸ h
theorem ed_var {i : Nat} (h : σ[i]? = some (some v)) (p : Dp K H v d) : ED K (tVar i) σ H d := fun H1 e Q q => ⟨v, h, q v H1 (Ex.refl _) (p.ex e)⟩
theorem ed_int {i : Int} : ED K (tC (.int i)) σ H (.int i) := fun H1 e Q q => q _ H1 (Ex.refl _) (.int i)
theorem ed_bl {i : Bool} : ED K (tC (.bl i)) σ H (.bool i) := fun H1 e Q q => q _ H1 (Ex.refl _) (.bl i)
theorem ed_str {i : Str} : ED K (tC (.str i)) σ H (.str i) := fun H1 e Q q => q _ H1 (Ex.refl _) (.str i)
theorem ed_non : ED K (tC .non) σ H .none := fun H1 e Q q => q _ H1 (Ex.refl _) .non
theorem ed_op (ha : ED K ta σ H a) (hb : ED K tb σ H b) (hr : RD K r a b c) : ED K (tOp r ta tb) σ H c := fun H1 e Q q =>
  ha H1 e _ fun x H2 e2 px => hb H2 (e.trans e2) _ fun y H3 e3 py => hr H3 x y (px.ex e3) py Q fun z H4 e4 pz => q z H4 ((e2.trans e3).trans e4) pz
theorem ed_neg {i : Int} (ha : ED K ta σ H (.int i)) : ED K (tUn (rU fun i => .int (-i)) ta) σ H (.int (-i)) := fun H1 e Q q =>
  ha H1 e _ fun x H2 e2 px => ⟨i, dp_int px, q _ H2 e2 (.int _)⟩
theorem eds_nil : EDs K tNil σ H [] := fun H1 _ Q q => q [] H1 (Ex.refl _) .nil
theorem eds_cons (ha : ED K ta σ H a) (hb : EDs K tl σ H ds) : EDs K (tCons ta tl) σ H (a :: ds) := fun H1 e Q q =>
  ha H1 e _ fun x H2 e2 px => hb H2 (e.trans e2) _ fun xs H3 e3 pxs => q (x :: xs) H3 (e2.trans e3) (.cons (px.ex e3) pxs)
theorem ed_tup (h : EDs K tl σ H ds) (hz : ds.length ≤ 100000) : ED K (tTup tl) σ H (.tuple ds) := fun H1 e Q q =>
  h H1 e _ fun xs H2 e2 px => ⟨by rw [px.length]; exact sz_of hz, fun p hp => q (.ref p) _ (e2.trans (Ex.new hp)) (.tup (.inl (.inl upd_same)) (px.ex (Ex.new hp)))⟩
theorem ed_lst (h : EDs K tl σ H ds) (hz : ds.length ≤ 100000) : ED K (tLst tl) σ H (.list ds) := fun H1 e Q q =>
  h H1 e _ fun xs H2 e2 px => ⟨by rw [px.length]; exact sz_of hz, fun p hp => q (.ref p) _ (e2.trans (Ex.new hp)) (.lst (.inl (.inl upd_same)) (px.ex (Ex.new hp)))⟩
theorem ed_cb {r : List V → Hp → VK → Prop} (h : EDs K tl σ H ds) (hr : RCD K r ds c) : ED K (tCB r tl) σ H c := fun H1 e Q q =>
  h H1 e _ fun xs H2 e2 px => hr H2 xs px Q fun z H3 e3 pz => q z H3 (e2.trans e3) pz
/-- a def that gives data of data, P args answer, and leaves what is known -/
def PureSp (K : PySem.W.Frag) (P : List PyData → PyData → Prop) : Sp := fun vs H Q _ => ∃ ds d, DpAll K H vs ds ∧ P ds d ∧ ∀ v H', Ex H H' → Dp K H' v d → Q v H'
theorem ed_call {P : List PyData → PyData → Prop} {E : XK} (h : EDs K tl σ H ds) (hp : P ds c) : ED K (tCall (PureSp K P) [] E tl) σ H c := fun H1 e Q q =>
  h H1 e _ fun xs H2 e2 px => ⟨ds, c, by rw [List.append_nil]; exact px, hp, fun z H3 e3 pz => q z H3 (e2.trans e3) pz⟩
theorem et_test {x : Bool} (h : ED K te σ H (.bool x)) : EvT (tTest te) σ H x := fun H1 e Q q => h H1 e _ fun v H2 e2 p => ⟨x, dp_bl p, q H2 e2⟩
theorem et_B {x : Bool} (h : ED K te σ H (.bool x)) : EvT (tB te) σ H x := fun H1 e Q q => h H1 e _ fun v H2 e2 p => ⟨x, dp_bl p, q H2 e2⟩
theorem ed_and {x y : Bool} (h1 : ED K ta σ H (.bool x)) (h2 : x = true → ED K tb σ H (.bool y)) : ED K (tAndV ta tb) σ H (.bool (x && y)) := fun H1 e Q q =>
  h1 H1 e _ fun v H2 e2 p => ⟨x, dp_bl p, by
    cases x with
    | true => exact h2 rfl H2 (e.trans e2) _ fun z H3 e3 pz => q z H3 (e2.trans e3) pz
    | false => exact q _ H2 e2 (.bl _)⟩
theorem ed_or {x y : Bool} (h1 : ED K ta σ H (.bool x)) (h2 : x = false → ED K tb σ H (.bool y)) : ED K (tOrV ta tb) σ H (.bool (x || y)) := fun H1 e Q q =>
  h1 H1 e _ fun v H2 e2 p => ⟨x, dp_bl p, by
    cases x with
    | true => exact q _ H2 e2 (.bl _)
    | false => exact h2 rfl H2 (e.trans e2) _ fun z H3 e3 pz => q z H3 (e2.trans e3) pz⟩
theorem ed_not {x : Bool} (h1 : ED K ta σ H (.bool x)) : ED K (tNotV ta) σ H (.bool (!x)) := fun H1 e Q q =>
  h1 H1 e _ fun v H2 e2 p => ⟨x, dp_bl p, q _ H2 e2 (.bl _)⟩
theorem ed_if {x : Bool} (h : EvT t σ H x) (h1 : x = true → ED K ta σ H d) (h2 : x = false → ED K tb σ H d) : ED K (tIf t ta tb) σ H d := fun H1 e Q q =>
  h H1 e _ fun H2 e2 => by
    cases x with
    | true => exact h1 rfl H2 (e.trans e2) _ fun z H3 e3 pz => q z H3 (e2.trans e3) pz
    | false => exact h2 rfl H2 (e.trans e2) _ fun z H3 e3 pz => q z H3 (e2.trans e3) pz
/-- a op1 b op2 c -/
theorem ed_chain {r r' : R2} {x y : Bool} (ha : ED K ta σ H a) (hb : ED K tb σ H b) (hc : x = true → ED K tc σ H c) (h1 : RD K r a b (.bool x)) (h2 : x = true → RD K r' b c (.bool y)) : ED K (tChain r r' ta tb tc) σ H (.bool (x && y)) := fun H1 e Q q =>
  ha H1 e _ fun va H2 e2 pa => hb H2 (e.trans e2) _ fun vb H3 e3 pb => h1 H3 va vb (pa.ex e3) pb _ fun z H4 e4 pz => ⟨x, dp_bl pz, by
    cases x with
    | true => exact hc rfl H4 ((e.trans e2).trans (e3.trans e4)) _ fun vc H5 e5 pc => h2 rfl H5 vb vc ((pb.ex e4).ex e5) pc _ fun z H6 e6 pz => q z H6 ((e2.trans (e3.trans e4)).trans (e5.trans e6)) pz
    | false => exact q _ H4 (e2.trans (e3.trans e4)) (.bl _)⟩
/-! ### operations -/
theorem rd_add {i j : Int} : RD K (rI0 fun i j => .int (i + j)) (.int i) (.int j) (.int (i + j)) := fun H x y px py Q q => ⟨i, j, dp_int px, dp_int py, q _ H (Ex.refl _) (.int _)⟩
theorem rd_sub {i j : Int} : RD K (rI0 fun i j => .int (i - j)) (.int i) (.int j) (.int (i - j)) := fun H x y px py Q q => ⟨i, j, dp_int px, dp_int py, q _ H (Ex.refl _) (.int _)⟩
theorem rd_b {g : Int → Int → Bool} {i j : Int} : RD K (rI0 fun i j => .bl (g i j)) (.int i) (.int j) (.bool (g i j)) := fun H x y px py Q q => ⟨i, j, dp_int px, dp_int py, q _ H (Ex.refl _) (.bl _)⟩
theorem rd_eqI {i j : Int} : RD K rEq (.int i) (.int j) (.bool (decide (i = j))) := fun H x y px py Q q => by
  cases dp_int px; cases dp_int py
  refine ⟨rfl, ?_⟩
  have : decide (V.int i = V.int j) = decide (i = j) := by rw [dec_int, Bool.beq_eq_decide_eq]
  rw [this]
  exact q _ H (Ex.refl _) (.bl _)
theorem rd_neI {i j : Int} : RD K rNe (.int i) (.int j) (.bool (!decide (i = j))) := fun H x y px py Q q => by
  cases dp_int px; cases dp_int py
  refine ⟨rfl, ?_⟩
  have : decide (V.int i = V.int j) = decide (i = j) := by rw [dec_int, Bool.beq_eq_decide_eq]
  rw [this]
  exact q _ H (Ex.refl _) (.bl _)
theorem rd_eqD (ha : SeqAt.shaped a = true) (hb : SeqAt.shaped b = true) : RD K (rEqD K) a b (.bool (PyData.eqv a b)) := fun H x y px py Q q =>
  ⟨a, b, px, py, ha, hb, q _ H (Ex.refl _) (.bl _)⟩
theorem rd_neD (ha : SeqAt.shaped a = true) (hb : SeqAt.shaped b = true) : RD K (rNeD K) a b (.bool (!PyData.eqv a b)) := fun H x y px py Q q =>
  ⟨a, b, px, py, ha, hb, q _ H (Ex.refl _) (.bl _)⟩
def isN : PyData → Bool
  | .none => true
  | _ => false
theorem isN_of {v : V} (p : Dp K H v d) : decide (v = V.non) = isN d := by cases p <;> rfl
theorem rd_isN : RD K (fun x y H Q => y = .non ∧ Q (.bl (decide (x = .non))) H) a .none (.bool (isN a)) := fun H x y px py Q q => by
  refine ⟨dp_non py, ?_⟩
  show Q (.bl (decide (x = .non))) H
  rw [isN_of px]
  exact q _ H (Ex.refl _) (.bl _)
theorem rd_notN : RD K (fun x y H Q => y = .non ∧ Q (.bl (!decide (x = .non))) H) a .none (.bool (!isN a)) := fun H x y px py Q q => by
  refine ⟨dp_non py, ?_⟩
  show Q (.bl (!decide (x = .non))) H
  rw [isN_of px]
  exact q _ H (Ex.refl _) (.bl _)
theorem rd_isB {x y : Bool} : RD K rIsB (.bool x) (.bool y) (.bool (decide (x = y))) := fun H u v px py Q q => ⟨x, y, dp_bl px, dp_bl py, q _ H (Ex.refl _) (.bl _)⟩
theorem rd_notB {x y : Bool} : RD K rNotB (.bool x) (.bool y) (.bool (!decide (x = y))) := fun H u v px py Q q => ⟨x, y, dp_bl px, dp_bl py, q _ H (Ex.refl _) (.bl _)⟩
theorem atI_dat {xs : List V} {ds : List PyData} {i : Nat} {d : PyData} (p : DpAll K H xs ds) (e : ds[i]? = some d) : ∃ v, atI xs (i : Int) = some v ∧ Dp K H v d := by
  obtain ⟨v, h1, h2⟩ := p.getD e
  exact ⟨v, atI_nat h1, h2⟩
theorem rd_ixT {i : Nat} (e : ds[i]? = some d) : RD K (rIxT K) (.tuple ds) (.int (i : Int)) d := fun H x y px py Q q => by
  obtain ⟨pa, xs, rfl, h1, h2⟩ := dp_tup px
  obtain ⟨v, h3, h4⟩ := atI_dat h2 e
  exact ⟨pa, xs, i, v, rfl, dp_int py, h1, h3, q v H (Ex.refl _) h4⟩
theorem rd_ixL {i : Nat} (e : ds[i]? = some d) : RD K (rIxL K) (.list ds) (.int (i : Int)) d := fun H x y px py Q q => by
  obtain ⟨pa, xs, rfl, h1, h2⟩ := dp_lst px
  obtain ⟨v, h3, h4⟩ := atI_dat h2 e
  exact ⟨pa, xs, i, v, rfl, dp_int py, h1, h3, q v H (Ex.refl _) h4⟩
theorem inV_ints {n : Int} : ∀ {ns : List Int}, inV (.int n) (ns.map V.int) = decide (n ∈ ns)
  | [] => rfl
  | m :: ns => by
    have ih := inV_ints (n := n) (ns := ns)
    unfold inV at ih ⊢
    rw [List.map_cons, List.any_cons, ih]
    show ((m == n) || decide (n ∈ ns)) = _
    by_cases h : m = n
    · subst h; simp
    · have h2 : ¬ n = m := fun z => h z.symm
      have e : (m == n) = false := by simp [h]
      rw [e, Bool.false_or]
      simp [h2]
theorem flat_ints : ∀ {ns : List Int}, (ns.map V.int).all flatV = true
  | [] => rfl
  | m :: ns => by rw [List.map_cons, List.all_cons, flat_ints (ns := ns)]; rfl
theorem rd_inT {n : Int} {ns : List Int} : RD K (rIn K false) (.int n) (.tuple (ns.map PyData.int)) (.bool (decide (n ∈ ns))) := fun H x y px py Q q => by
  obtain ⟨p, xs, rfl, h1, h2⟩ := dp_tup py
  cases dp_int px; cases dpa_ints h2
  refine ⟨p, _, rfl, .inr h1, rfl, flat_ints, ?_⟩
  show Q (.bl (inV (.int n) (ns.map V.int))) H
  rw [inV_ints]
  exact q _ H (Ex.refl _) (.bl _)
theorem rd_inL {n : Int} {ns : List Int} : RD K (rIn K false) (.int n) (.list (ns.map PyData.int)) (.bool (decide (n ∈ ns))) := fun H x y px py Q q => by
  obtain ⟨p, xs, rfl, h1, h2⟩ := dp_lst py
  cases dp_int px; cases dpa_ints h2
  refine ⟨p, _, rfl, .inl h1, rfl, flat_ints, ?_⟩
  show Q (.bl (inV (.int n) (ns.map V.int))) H
  rw [inV_ints]
  exact q _ H (Ex.refl _) (.bl _)
theorem rd_niT {n : Int} {ns : List Int} : RD K (rIn K true) (.int n) (.tuple (ns.map PyData.int)) (.bool (!decide (n ∈ ns))) := fun H x y px py Q q => by
  obtain ⟨p, xs, rfl, h1, h2⟩ := dp_tup py
  cases dp_int px; cases dpa_ints h2
  refine ⟨p, _, rfl, .inr h1, rfl, flat_ints, ?_⟩
  show Q (.bl (!inV (.int n) (ns.map V.int))) H
  rw [inV_ints]
  exact q _ H (Ex.refl _) (.bl _)
theorem rd_niL {n : Int} {ns : List Int} : RD K (rIn K true) (.int n) (.list (ns.map PyData.int)) (.bool (!decide (n ∈ ns))) := fun H x y px py Q q => by
  obtain ⟨p, xs, rfl, h1, h2⟩ := dp_lst py
  cases dp_int px; cases dpa_ints h2
  refine ⟨p, _, rfl, .inl h1, rfl, flat_ints, ?_⟩
  show Q (.bl (!inV (.int n) (ns.map V.int))) H
  rw [inV_ints]
  exact q _ H (Ex.refl _) (.bl _)
/-- tuple + tuple -/
theorem rd_catA {es : List PyData} (hz : ds.length + es.length ≤ 100000) : RD K (rCatA K) (.tuple ds) (.tuple es) (.tuple (ds ++ es)) := fun H x y px py Q q => by
  obtain ⟨pa, xs, rfl, h1, h2⟩ := dp_tup px
  obtain ⟨p', ys, rfl, h3, h4⟩ := dp_tup py
  refine ⟨pa, p', xs, ys, rfl, rfl, h1, h3, by rw [h2.length, h4.length]; exact sz_of hz, fun e => ?_, fun _ e => ?_, fun _ _ z hz' => ?_⟩
  · subst e; cases h2; exact q _ H (Ex.refl _) py
  · subst e; cases h4; rw [List.append_nil] at q; exact q _ H (Ex.refl _) px
  · exact q _ _ (Ex.new hz') (.tup (.inl (.inl upd_same)) ((h2.app h4).ex (Ex.new hz')))
/-! ### calls of built-ins -/
theorem rcd_lenL : RCD K (fun xs H Q => ∃ p ys, xs = [.ref p] ∧ (SqL K H p ys ∨ SqT K H p ys) ∧ Q (.int ys.length) H) [.list ds] (.int ds.length) := fun H vs p Q q => by
  obtain ⟨x, rfl, px⟩ := dpa1 p
  obtain ⟨pa, xs, rfl, h1, h2⟩ := dp_lst px
  refine ⟨pa, xs, rfl, .inl h1, ?_⟩
  rw [h2.length]
  exact q _ H (Ex.refl _) (.int _)
theorem rcd_lenT : RCD K (fun xs H Q => ∃ p ys, xs = [.ref p] ∧ (SqL K H p ys ∨ SqT K H p ys) ∧ Q (.int ys.length) H) [.tuple ds] (.int ds.length) := fun H vs p Q q => by
  obtain ⟨x, rfl, px⟩ := dpa1 p
  obtain ⟨pa, xs, rfl, h1, h2⟩ := dp_tup px
  refine ⟨pa, xs, rfl, .inr h1, ?_⟩
  rw [h2.length]
  exact q _ H (Ex.refl _) (.int _)
theorem rcd_tuple : RCD K (fun xs H Q => ∃ p ys, xs = [.ref p] ∧ ((SqL K H p ys ∧ ∀ l, H l = none → Q (.ref l) (upd H l (.tup ys))) ∨ (SqT K H p ys ∧ Q (.ref p) H))) [.list ds] (.tuple ds) := fun H vs p Q q => by
  obtain ⟨x, rfl, px⟩ := dpa1 p
  obtain ⟨pa, xs, rfl, h1, h2⟩ := dp_lst px
  exact ⟨pa, xs, rfl, .inl ⟨h1, fun l hl => q _ _ (Ex.new hl) (.tup (.inl (.inl upd_same)) (h2.ex (Ex.new hl)))⟩⟩
theorem rcd_all {bs : List Bool} : RCD K (rAll K) [.list (bs.map PyData.bool)] (.bool (bs.all id)) := fun H vs p Q q => by
  obtain ⟨x, rfl, px⟩ := dpa1 p
  obtain ⟨pa, xs, rfl, h1, h2⟩ := dp_lst px
  cases dpa_bls h2
  exact ⟨pa, bs, rfl, h1, q _ H (Ex.refl _) (.bl _)⟩
theorem rcd_any {bs : List Bool} : RCD K (rAny K) [.list (bs.map PyData.bool)] (.bool (bs.any id)) := fun H vs p Q q => by
  obtain ⟨x, rfl, px⟩ := dpa1 p
  obtain ⟨pa, xs, rfl, h1, h2⟩ := dp_lst px
  cases dpa_bls h2
  exact ⟨pa, bs, rfl, h1, q _ H (Ex.refl _) (.bl _)⟩
end
/-! ### what is walked -/
/-- at turn i a value that is the i-th data -/
def YD (K : PySem.W.Frag) (ds : List PyData) : Nat → Hp → V → Hp → Prop := fun i H x H' => Ex H H' ∧ ∃ d, ds[i]? = some d ∧ Dp K H' x d
/-- an iterable gives the data ds, as long as GG holds between the heap at its making and now -/
def EI (K : PySem.W.Frag) (wi : TI) (σ : L2.St) (H : Hp) (GG : Hp → Hp → Prop) (ds : List PyData) : Prop :=
  ∀ R : It → Hp → Prop, (∀ J H2, Ex H H2 → Walk J ds.length (GG H2) (YD K ds) → R J H2) → wi σ H R
section
variable {K : PySem.W.Frag} {σ : L2.St} {H H' : Hp} {ta tb tc te tl : TE} {t u : TT} {a b c d : PyData} {ds : List PyData} {v : V} {GG : Hp → Hp → Prop} {wi : TI}
theorem walk_tupD {p : Addr} {xs : List V} {G : Hp → Prop} (hG : ∀ H', G H' → SqT K H' p xs ∧ DpAll K H' xs ds) (hl : xs.length = ds.length) : Walk (Itt K p) ds.length G (YD K ds) := by
  rw [← hl]
  refine walk_tup.mono (fun H' g => (hG H' g).1) fun i H' x H'' hi g y => ?_
  obtain ⟨rfl, hx⟩ := y
  obtain ⟨d, h1, h2⟩ := (hG _ g).2.get hx
  exact ⟨Ex.refl _, d, h1, h2⟩
theorem walk_lstD {p : Addr} {xs : List V} {G : Hp → Prop} (hG : ∀ H', G H' → SqL K H' p xs ∧ DpAll K H' xs ds) (hl : xs.length = ds.length) : Walk (Itl K p) ds.length G (YD K ds) := by
  rw [← hl]
  refine walk_list.mono (fun H' g => (hG H' g).1) fun i H' x H'' hi g y => ?_
  obtain ⟨rfl, hx⟩ := y
  obtain ⟨d, h1, h2⟩ := (hG _ g).2.get hx
  exact ⟨Ex.refl _, d, h1, h2⟩
/-- a tuple, a list that is given by an expression, walked while all that is known stays -/
theorem ei_tup (h : ED K tl σ H (.tuple ds)) : EI K (iTup K tl) σ H Ex ds := fun R k =>
  h H (Ex.refl _) _ fun v H2 e2 p => by
    obtain ⟨pa, xs, rfl, h1, h2⟩ := dp_tup p
    exact ⟨pa, rfl, ⟨xs, h1⟩, k _ H2 e2 (walk_tupD (fun H' g => ⟨ex_t g h1, h2.ex g⟩) h2.length)⟩
theorem ei_lst (h : ED K tl σ H (.list ds)) : EI K (iList K tl) σ H Ex ds := fun R k =>
  h H (Ex.refl _) _ fun v H2 e2 p => by
    obtain ⟨pa, xs, rfl, h1, h2⟩ := dp_lst p
    exact ⟨pa, rfl, ⟨xs, h1⟩, k _ H2 e2 (walk_lstD (fun H' g => ⟨ex_l g h1, h2.ex g⟩) h2.length)⟩
/-- .. where tuples stay -/
theorem ei_tupK (h : ED K tl σ H (.tuple ds)) (ht : stayAll ds = true) : EI K (iTup K tl) σ H TK ds := fun R k =>
  h H (Ex.refl _) _ fun v H2 e2 p => by
    obtain ⟨pa, xs, rfl, h1, h2⟩ := dp_tup p
    exact ⟨pa, rfl, ⟨xs, h1⟩, k _ H2 e2 (walk_tupD (fun H' g => ⟨h1.imp (fun r => g _ _ r) id, dpa_tk g ds xs ht h2⟩) h2.length)⟩
theorem YD_range {lo : Int} {n : Nat} {G : Hp → Prop} {ds : List PyData} (hd : ds = (List.range n).map fun (i : Nat) => PyData.int (lo + (i : Int))) : Walk (Itr lo n) ds.length G (YD K ds) := by
  have hl : ds.length = n := by rw [hd, List.length_map, List.length_range]
  rw [hl]
  refine walk_range.mono (fun _ _ => trivial) fun i H' x H'' hi g y => ?_
  obtain ⟨rfl, rfl⟩ := y
  refine ⟨Ex.refl _, .int (lo + (i : Int)), ?_, .int _⟩
  rw [hd, List.getElem?_map, List.getElem?_range hi]; rfl
/-- range(n) -/
abbrev rgD (n : Nat) : List PyData := (List.range n).map fun (i : Nat) => PyData.int (i : Int)
theorem rgD_len (n : Nat) : (rgD n).length = n := by rw [List.length_map, List.length_range]
theorem ei_rng {n : Nat} {tr : TA} (h : EDs K tr σ H [.int (n : Int)]) (hn : n ≤ 100000) : EI K (iRng1 tr) σ H GG (rgD n) := fun R k =>
  h H (Ex.refl _) _ fun vs H2 e2 p => by
    obtain ⟨x, rfl, px⟩ := dpa1 p
    cases dp_int px
    refine ⟨n, rfl, by omega, by omega, k _ H2 e2 ?_⟩
    have : (n : Int).toNat = n := by omega
    rw [this]
    refine YD_range ?_
    exact congrArg (fun f => (List.range n).map f) (funext fun i => by rw [Int.zero_add])
/-- range(a, b) -/
theorem ei_rng2 {i j : Int} {tr : TA} (h : EDs K tr σ H [.int i, .int j]) (h1 : -100000 ≤ i ∧ i ≤ 100000 ∧ -100000 ≤ j ∧ j ≤ 100000) : EI K (iRng2 tr) σ H GG ((List.range (j - i).toNat).map fun (k : Nat) => PyData.int (i + (k : Int))) := fun R k =>
  h H (Ex.refl _) _ fun vs H2 e2 p => by
    obtain ⟨x, y, rfl, px, py⟩ := dpa2 p
    cases dp_int px; cases dp_int py
    exact ⟨i, j, rfl, ⟨by omega, by omega, by omega, by omega⟩, k _ H2 e2 (YD_range rfl)⟩
/-- zip of two tuples -/
theorem ei_zip {xs ys : List PyData} {tr : TA} (h : EDs K tr σ H [.tuple xs, .tuple ys]) : EI K (RZ.iZipA K tr) σ H Ex ((xs.zip ys).map fun p => .tuple [p.1, p.2]) := fun R k =>
  h H (Ex.refl _) _ fun vs H2 e2 p => by
    obtain ⟨x, y, rfl, px, py⟩ := dpa2 p
    obtain ⟨pa, us, rfl, h1, h2⟩ := dp_tup px
    obtain ⟨p', ws, rfl, h3, h4⟩ := dp_tup py
    refine ⟨pa, p', us, ws, rfl, .inr ⟨h1, h3, k _ H2 e2 ⟨fun i H' hi g => ?_, fun H' g => ?_, fun i H' x H'' hi g y => ?_⟩⟩⟩
    · rw [List.length_map, List.length_zip, ← h2.length, ← h4.length] at hi
      have hi1 : i < us.length := by omega
      have hi2 : i < ws.length := by omega
      exact ⟨us, ws, us[i], ws[i], ex_t g h1, ex_t g h3, List.getElem?_eq_getElem hi1, List.getElem?_eq_getElem hi2⟩
    · refine ⟨us, ws, ex_t g h1, ex_t g h3, ?_⟩
      rw [List.length_map, List.length_zip, ← h2.length, ← h4.length]
      omega
    · obtain ⟨T, u, w, rfl, hT, rfl, hu, hw⟩ := y
      have hu := hu us (ex_t g h1)
      have hw := hw ws (ex_t g h3)
      obtain ⟨d1, a1, b1⟩ := h2.get hu
      obtain ⟨d2, a2, b2⟩ := h4.get hw
      refine ⟨Ex.new hT, .tuple [d1, d2], ?_, .tup (.inl (.inl upd_same)) (.cons ((b1.ex g).ex (Ex.new hT)) (.cons ((b2.ex g).ex (Ex.new hT)) .nil))⟩
      have ez : (xs.zip ys)[i]? = some (d1, d2) := List.getElem?_zip_eq_some.mpr ⟨a1, a2⟩
      rw [List.getElem?_map, ez]; rfl
theorem zip_map_enc {α β : Type} (e1 : α → PyData) (e2 : β → PyData) : ∀ (xs : List α) (ys : List β), ((xs.map e1).zip (ys.map e2)).map (fun p => PyData.tuple [p.1, p.2]) = (xs.zip ys).map fun p => PyData.tuple [e1 p.1, e2 p.2]
  | [], _ => rfl
  | _ :: _, [] => rfl
  | x :: xs, y :: ys => by
    have ih := zip_map_enc e1 e2 xs ys
    simp only [List.map_cons, List.zip_cons_cons, ih]
theorem ei_zipE {α β : Type} {xs : List α} {ys : List β} {e1 : α → PyData} {e2 : β → PyData} {tr : TA} (h : EDs K tr σ H [.tuple (xs.map e1), .tuple (ys.map e2)]) : EI K (RZ.iZipA K tr) σ H Ex ((xs.zip ys).map fun p => .tuple [e1 p.1, e2 p.2]) := by
  rw [← zip_map_enc]
  exact ei_zip h
/-! ### targets -/
/-- a pair stored to two names -/
theorem eg_pair {i j : Nat} {x : V} {Q : L2.St → Hp → Prop} (p : Dp K H x (.tuple [a, b])) (h : ∀ u w, Dp K H u a → Dp K H w b → Q ((σ.set i (some u)).set j (some w)) H) : gTup K 2 (gCons (gName i) (gCons (gName j) gNil)) x σ H Q := by
  obtain ⟨q, xs, rfl, h1, h2⟩ := dp_tup p
  obtain ⟨u, w, rfl, h3, h4⟩ := dpa2 h2
  exact ⟨q, _, rfl, h1, rfl, u, _, rfl, w, _, rfl, rfl, h u w h3 h4⟩
/-! ### comprehensions -/
/-- the list so far -/
def Cd {α : Type} (K : PySem.W.Frag) (H : Hp) (f : α → Bool) (w : α → PyData) (xs : List α) (Dl : Addr) (i : Nat) (H' : Hp) : Prop :=
  H Dl = none ∧ Ex H H' ∧ ∃ acc, H' Dl = some (.lst acc) ∧ DpAll K H' acc (((xs.take i).filter f).map w)
theorem take_succ_of {α : Type} {l : List α} {i : Nat} {x : α} (h : l[i]? = some x) : l.take (i + 1) = l.take i ++ [x] := by
  rw [List.take_add_one, h]; rfl
theorem cd_turn {α : Type} {xs : List α} {σ2 : L2.St} {f : α → Bool} {w : α → PyData} {Dl : Addr} {i : Nat} {d : α} (p : Cd K H f w xs Dl i H') (hi : xs[i]? = some d) (hz : xs.length ≤ 40000) (hs : ∀ d ∈ xs, f d = true → stay (w d) = true)
    (ht : EvT t σ2 H' (f d)) (he : f d = true → ED K te σ2 H' (w d)) :
    t σ2 H' fun b H3 => if b = true then te σ2 H3 fun y H4 => ∃ acc, H4 Dl = some (.lst acc) ∧ acc.length < sizeLine ∧ Cd K H f w xs Dl (i + 1) (upd H4 Dl (.lst (acc ++ [y]))) else Cd K H f w xs Dl (i + 1) H3 := by
  obtain ⟨p1, p2, acc, p3, p4⟩ := p
  refine ht H' (Ex.refl _) _ fun H3 e3 => ?_
  have hd : d ∈ xs := List.mem_of_getElem? hi
  cases hf : f d with
  | true =>
    show te σ2 H3 fun y H4 => ∃ acc, H4 Dl = some (.lst acc) ∧ acc.length < sizeLine ∧ Cd K H f w xs Dl (i + 1) (upd H4 Dl (.lst (acc ++ [y])))
    refine he hf H3 e3 _ fun y H4 e4 py => ?_
    have hD : H4 Dl = some (.lst acc) := e4 _ _ (e3 _ _ p3)
    have hl : acc.length ≤ xs.length := by
      rw [p4.length, List.length_map]
      exact Nat.le_trans (List.length_filter_le _ _) (by rw [List.length_take]; omega)
    refine ⟨acc, hD, sz_lt (by omega), p1, Ex.mut (p2.trans (e3.trans e4)) p1, acc ++ [y], upd_same, ?_⟩
    rw [take_succ_of hi, List.filter_append, List.map_append]
    have e1 : [d].filter f = [d] := by simp [hf]
    rw [e1]
    refine DpAll.app (dpa_tk (TK.upd_lst hD) _ _ ?_ ((p4.ex e3).ex e4)) (.cons (dp_tk (TK.upd_lst hD) _ _ (hs d hd hf) py) .nil)
    refine stayAll_iff.mpr fun z hz' => ?_
    obtain ⟨z', h1, rfl⟩ := List.mem_map.mp hz'
    obtain ⟨h2, h3⟩ := List.mem_filter.mp h1
    exact hs z' (List.mem_of_mem_take h2) h3
  | false =>
    show Cd K H f w xs Dl (i + 1) H3
    refine ⟨p1, p2.trans e3, acc, e3 _ _ p3, ?_⟩
    rw [take_succ_of hi, List.filter_append]
    have e1 : [d].filter f = [] := by simp [hf]
    rw [e1, List.append_nil]
    exact p4.ex e3
theorem map_get {α β : Type} {e : α → β} {xs : List α} {i : Nat} {d : β} (h : (xs.map e)[i]? = some d) : ∃ a, xs[i]? = some a ∧ d = e a := by
  rw [List.getElem?_map] at h
  cases hx : xs[i]? with
  | none => rw [hx] at h; cases h
  | some a => rw [hx] at h; exact ⟨a, rfl, (Option.some.inj h).symm⟩
/-- [elt for x in .. if ..] -/
theorem ed_lc {α : Type} {xs : List α} {enc : α → PyData} {vs : List Nat} {j : Nat} {f : α → Bool} {w : α → PyData} (hi : ∀ H1, Ex H H1 → EI K wi σ H1 Ex (xs.map enc)) (hz : xs.length ≤ 40000) (hs : ∀ d ∈ xs, f d = true → stay (w d) = true)
    (hw : ∀ x, wipe ((wipe σ vs).set j (some x)) vs = wipe σ vs)
    (ht : ∀ d x H1, d ∈ xs → Ex H H1 → Dp K H1 x (enc d) → EvT t ((wipe σ vs).set j (some x)) H1 (f d))
    (he : ∀ d x H1, d ∈ xs → Ex H H1 → Dp K H1 x (enc d) → f d = true → ED K te ((wipe σ vs).set j (some x)) H1 (w d)) :
    ED K (tLc wi (gName j) t te vs) σ H (.list ((xs.filter f).map w)) := fun H0 e Q q => hi H0 e _ fun J H1 e1 wk Dl hD =>
  lc_it wk (Cd K H1 f w xs Dl) ⟨hD, Ex.new hD, [], upd_same, .nil⟩ (fun i H' _ p => p.2.1) (fun i x H' H'' hi' p y => by
    obtain ⟨ey, d', hd', px⟩ := y
    obtain ⟨d, hd, rfl⟩ := map_get hd'
    obtain ⟨p1, p2, acc, p3, p4⟩ := p
    have em : Ex H H'' := e.trans (e1.trans (p2.trans ey))
    exact ⟨hw x, cd_turn ⟨p1, p2.trans ey, acc, ey _ _ p3, p4.ex ey⟩ hd hz hs (ht d x H'' (List.mem_of_getElem? hd) em px) (fun hf => he d x H'' (List.mem_of_getElem? hd) em px hf)⟩)
    (fun H' p => by
      obtain ⟨p1, p2, acc, p3, p4⟩ := p
      rw [List.length_map, List.take_length] at p4
      exact q _ H' (e1.trans p2) (.lst (.inl (.inl p3)) p4))
/-- [elt for x, y in .. if ..] -/
theorem ed_lcp {α : Type} {xs : List α} {e1 e2 : α → PyData} {vs : List Nat} {j k : Nat} {f : α → Bool} {w : α → PyData} (hi : ∀ H1, Ex H H1 → EI K wi σ H1 Ex (xs.map fun p => .tuple [e1 p, e2 p])) (hz : xs.length ≤ 40000) (hs : ∀ p ∈ xs, f p = true → stay (w p) = true)
    (hw : ∀ x y, wipe (((wipe σ vs).set j (some x)).set k (some y)) vs = wipe σ vs)
    (ht : ∀ p x y H1, p ∈ xs → Ex H H1 → Dp K H1 x (e1 p) → Dp K H1 y (e2 p) → EvT t (((wipe σ vs).set j (some x)).set k (some y)) H1 (f p))
    (he : ∀ p x y H1, p ∈ xs → Ex H H1 → Dp K H1 x (e1 p) → Dp K H1 y (e2 p) → f p = true → ED K te (((wipe σ vs).set j (some x)).set k (some y)) H1 (w p)) :
    ED K (tLc wi (gTup K 2 (gCons (gName j) (gCons (gName k) gNil))) t te vs) σ H (.list ((xs.filter f).map w)) := fun H0 e Q q => hi H0 e _ fun J H1 e1 wk Dl hD =>
  lc_it wk (Cd K H1 f w xs Dl) ⟨hD, Ex.new hD, [], upd_same, .nil⟩ (fun i H' _ p => p.2.1) (fun i x H' H'' hi' p y => by
    obtain ⟨ey, d', hd', px⟩ := y
    obtain ⟨d, hd, rfl⟩ := map_get hd'
    obtain ⟨p1, p2, acc, p3, p4⟩ := p
    have em : Ex H H'' := e.trans (e1.trans (p2.trans ey))
    have hm := List.mem_of_getElem? hd
    exact eg_pair px fun u u' pu pu' => ⟨hw u u', cd_turn ⟨p1, p2.trans ey, acc, ey _ _ p3, p4.ex ey⟩ hd hz hs (ht d u u' H'' hm em pu pu') (fun hf => he d u u' H'' hm em pu pu' hf)⟩)
    (fun H' p => by
      obtain ⟨p1, p2, acc, p3, p4⟩ := p
      rw [List.length_map, List.take_length] at p4
      exact q _ H' (e1.trans p2) (.lst (.inl (.inl p3)) p4))
theorem filter_yes {α : Type} (xs : List α) : xs.filter (fun _ => true) = xs := List.filter_eq_self.mpr fun _ _ => rfl
/-- no test -/
theorem et_yes : EvT tYes σ H true := fun H1 _ Q q => q H1 (Ex.refl _)
theorem et_and' {x y : Bool} (h1 : EvT t σ H x) (h2 : x = true → EvT u σ H y) : EvT (tAnd t u) σ H (x && y) := et_and h1 h2
/-- .. without a test -/
theorem ed_lcY {α : Type} {xs : List α} {enc : α → PyData} {vs : List Nat} {j : Nat} {w : α → PyData} (hi : ∀ H1, Ex H H1 → EI K wi σ H1 Ex (xs.map enc)) (hz : xs.length ≤ 40000) (hs : ∀ d ∈ xs, stay (w d) = true)
    (hw : ∀ x, wipe ((wipe σ vs).set j (some x)) vs = wipe σ vs)
    (he : ∀ d x H1, d ∈ xs → Ex H H1 → Dp K H1 x (enc d) → ED K te ((wipe σ vs).set j (some x)) H1 (w d)) :
    ED K (tLc wi (gName j) tYes te vs) σ H (.list (xs.map w)) := by
  have h := ed_lc (t := tYes) (f := fun _ => true) hi hz (fun d hd _ => hs d hd) hw (fun d x H1 _ _ _ => et_yes) (fun d x H1 a b c _ => he d x H1 a b c)
  rw [filter_yes] at h
  exact h
theorem ed_lcpY {α : Type} {xs : List α} {e1 e2 : α → PyData} {vs : List Nat} {j k : Nat} {w : α → PyData} (hi : ∀ H1, Ex H H1 → EI K wi σ H1 Ex (xs.map fun p => .tuple [e1 p, e2 p])) (hz : xs.length ≤ 40000) (hs : ∀ p ∈ xs, stay (w p) = true)
    (hw : ∀ x y, wipe (((wipe σ vs).set j (some x)).set k (some y)) vs = wipe σ vs)
    (he : ∀ p x y H1, p ∈ xs → Ex H H1 → Dp K H1 x (e1 p) → Dp K H1 y (e2 p) → ED K te (((wipe σ vs).set j (some x)).set k (some y)) H1 (w p)) :
    ED K (tLc wi (gTup K 2 (gCons (gName j) (gCons (gName k) gNil))) tYes te vs) σ H (.list (xs.map w)) := by
  have h := ed_lcp (t := tYes) (f := fun _ => true) hi hz (fun d hd _ => hs d hd) hw (fun d x y H1 _ _ _ _ => et_yes) (fun d x y H1 a b c c' _ => he d x y H1 a b c c')
  rw [filter_yes] at h
  exact h
theorem ed_all {α : Type} {xs : List α} {p : α → Bool} (h : ED K te σ H (.list (xs.map fun a => PyData.bool (p a)))) : ED K (tCB (rAll K) (tCons te tNil)) σ H (.bool (xs.all p)) := by
  have e : (xs.map fun a => PyData.bool (p a)) = (xs.map p).map PyData.bool := by rw [List.map_map]; rfl
  rw [e] at h
  have e2 : (xs.map p).all id = xs.all p := by rw [List.all_map]; rfl
  rw [← e2]
  exact ed_cb (eds_cons h eds_nil) rcd_all
theorem ed_any {α : Type} {xs : List α} {p : α → Bool} (h : ED K te σ H (.list (xs.map fun a => PyData.bool (p a)))) : ED K (tCB (rAny K) (tCons te tNil)) σ H (.bool (xs.any p)) := by
  have e : (xs.map fun a => PyData.bool (p a)) = (xs.map p).map PyData.bool := by rw [List.map_map]; rfl
  rw [e] at h
  have e2 : (xs.map p).any id = xs.any p := by rw [List.any_map]; rfl
  rw [← e2]
  exact ed_cb (eds_cons h eds_nil) rcd_any
/-! ### statements -/
variable {D : Ends} {tu tw tz : TS} {g : TG}
theorem s_asgD {i : Nat} (h : ED K te σ H d) (k : ∀ v H1, Ex H H1 → Dp K H1 v d → D.nx (σ.set i (some v)) H1) : tAsg te (gName i) D σ H := h H (Ex.refl _) _ fun v H1 e p => k v H1 e p
theorem s_retD (h : ED K te σ H d) (k : ∀ v H1, Ex H H1 → Dp K H1 v d → D.rt v H1) : tRet te D σ H := h H (Ex.refl _) _ fun v H1 e p => k v H1 e p
theorem q_asgD {i : Nat} (h : ED K te σ H d) (k : ∀ v H1, Ex H H1 → Dp K H1 v d → tz D (σ.set i (some v)) H1) : tSeq (tAsg te (gName i)) tz D σ H := h H (Ex.refl _) _ fun v H1 e p => k v H1 e p
theorem s_ifD {x : Bool} (h : EvT t σ H x) (h1 : x = true → ∀ H1, Ex H H1 → tu D σ H1) (h2 : x = false → ∀ H1, Ex H H1 → tw D σ H1) : tIfS t tu tw D σ H := h H (Ex.refl _) _ fun H1 e => by
  cases x with
  | true => exact h1 rfl H1 e
  | false => exact h2 rfl H1 e
theorem q_whenD {x : Bool} (h : EvT t σ H x) (h1 : x = true → ∀ H1, Ex H H1 → tu { D with nx := tz D } σ H1) (h2 : x = false → ∀ H1, Ex H H1 → tz D σ H1) : tSeq (tIfS t tu tNext) tz D σ H := h H (Ex.refl _) _ fun H1 e => by
  cases x with
  | true => exact h1 rfl H1 e
  | false => exact h2 rfl H1 e
/-- for x in ..: Pv by the heap at the loop's start, the turn, the slots, the heap -/
theorem s_forD (hi : EI K wi σ H GG ds) (Pv : Hp → Nat → L2.St → Hp → Prop) (h0 : ∀ H2, Ex H H2 → Pv H2 0 σ H2) (hG : ∀ H2 i σ' H', i ≤ ds.length → Pv H2 i σ' H' → GG H2 H')
    (hs : ∀ H2 i d x σ' H' H'', Ex H H2 → ds[i]? = some d → Pv H2 i σ' H' → Ex H' H'' → Dp K H'' x d → g x σ' H'' fun σ3 H3 => tu { D with nx := Pv H2 (i + 1), ct := Pv H2 (i + 1), bk := D.nx } σ3 H3)
    (hd : ∀ H2 σ' H', Ex H H2 → Pv H2 ds.length σ' H' → D.nx σ' H') : tFor wi g tu D σ H :=
  hi _ fun J H2 e2 wk => for_it wk (Pv H2) (h0 H2 e2) (fun i σ' H' hi p => hG H2 i σ' H' hi p) (fun i x σ' H' H'' hi p y => by
    obtain ⟨ey, d, hd', px⟩ := y
    exact hs H2 i d x σ' H' H'' e2 hd' p ey px) (fun σ' H' p => hd H2 σ' H' e2 p)
end
end BB
/-! G1: rules that the layer lacks: enumerate of a tuple, tuple.index of ints, x in tuple (data), a list compared with an empty one, range as a value. -/
namespace BB
open PySem L2 Evl PyProof.Rows
open AutoSeq1 (wpAny_loadPart')
theorem meets_enumerate_newT (l : Addr) (items : Array Value) (n : Nat) (dct : Option Addr) (sl : Array (Option Value)) :
    Meets (Builtin.«enumerate.__new__» ⟨[.type "enumerate", .ref l], []⟩) (fun _ R s => s.heap.get? l = some { cls := .type "tuple", dict := dct, data := .seq items n, slots := sl } ∧
      R (.ok (.ret (.ref (s.heap.push { cls := .type "tuple_iterator", data := .fields #[.ref l, .int 0 0] }).objs.size)))
        { s with heap := (s.heap.push { cls := .type "tuple_iterator", data := .fields #[.ref l, .int 0 0] }).push { cls := .type "enumerate", data := .fields #[.none, .bool false, .ref s.heap.objs.size, rawInt 0, .none, .none] } }) :=
  .of_wp fun prog w A R s h => by
    obtain ⟨hp, g, d, tk, os⟩ := s; obtain ⟨hl, h⟩ := h
    have hsub := sub_enumerate
    have hL : Heap.IsTuple (Shared.heap ⟨hp, g, d, tk, os⟩) l items := ⟨_, hl, rfl, n, rfl⟩
    wp_walk using wpAny_loadPart' hl
    refine wpAny_stack_any fun st => wpAny_pure ?_
    split
    · rename_i c _ _ _ _ _
      cases (c == Value.type "enumerate")
      · wp_walk using wpAny_loadPart' hl, wpAny_pyIter_tuple hL
        exact ⟨_, rfl, h⟩
      · wp_walk using wpAny_loadPart' hl, wpAny_pyIter_tuple hL
        exact ⟨_, rfl, h⟩
    · wp_walk using wpAny_loadPart' hl, wpAny_pyIter_tuple hL
      exact ⟨_, rfl, h⟩
theorem call_enumerate_tuple {prog : Program} {w : World} {A : Around} {E : Value → Shared → Prop} {s : Shared} {l : Addr} {items : Array Value} {Q : Value → Shared → Prop} (hL : s.heap.IsTuple l items)
    (h : ∀ h', IsEnum h' (s.heap.objs.size + 1) s.heap.objs.size 0 .none → h'.IsTupleIter s.heap.objs.size l 0 → h'.objs.size = s.heap.objs.size + 2 →
      (∀ b o, s.heap.get? b = some o → h'.get? b = some o) → Q (.ref (s.heap.objs.size + 1)) { s with heap := h' }) :
    wpAny (model prog w) A (call (.type "enumerate") [.ref l]) Q E s := by
  obtain ⟨⟨c, dct, dt, sl⟩, hl, hc, n, hd⟩ := hL
  replace hc : c = .type "tuple" := hc
  replace hd : dt = .seq items n := hd
  subst hc hd
  refine callType_new F.called_enumerate (by decide) (F.typeCall_enumerate_1 _) (F.newCall_enumerate_1 _) (fun obj => F.args_object_init_2 obj _) F.entry_enumerate_new
    (meets_enumerate_newT l items n dct sl) ⟨hl, ?_⟩
  have hz : (s.heap.push { cls := .type "tuple_iterator", data := .fields #[.ref l, .int 0 0] }).objs.size = s.heap.objs.size + 1 := Heap.size_push ..
  show _ ∧ _
  rw [hz]
  have he : IsEnum ((s.heap.push { cls := .type "tuple_iterator", data := .fields #[.ref l, .int 0 0] }).push
      { cls := .type "enumerate", data := .fields #[.none, .bool false, .ref s.heap.objs.size, rawInt 0, .none, .none] }) (s.heap.objs.size + 1) s.heap.objs.size 0 .none := by
    have := Heap.get?_push_size (s.heap.push { cls := .type "tuple_iterator", data := .fields #[.ref l, .int 0 0] })
      (o := { cls := .type "enumerate", data := .fields #[.none, .bool false, .ref s.heap.objs.size, rawInt 0, .none, .none] }) rfl
    rw [hz] at this; exact this
  refine ⟨⟨_, he, rfl⟩, h _ he ⟨_, Heap.get?_push_of_some _ (Heap.get?_push_size _ rfl), rfl, rfl⟩ (by rw [Heap.size_push, hz]) fun b o x => Heap.get?_push_of_some _ (Heap.get?_push_of_some _ x)⟩
theorem wpAny_pyNext_enum_endT {prog : Program} {w : World} {A : Around} {E : Value → Shared → Prop} {s : Shared} {e it l : Addr} {i : Nat} {items : Array Value} {old : Value} {Q : Option Value → Shared → Prop} (hh : A.handled = none)
    (he : IsEnum s.heap e it i old) (hit : s.heap.IsTupleIter it l i) (hl : s.heap.IsTuple l items) (hx : items[i]? = none)
    (hQ : ∀ h', Heap.ExtBut it s.heap h' → Q none { s with heap := h' }) : wpAny (model prog w) A (pyNext (.ref e)) Q E s := by
  have hT : s.TypeIs (.ref e) "enumerate" := ⟨_, he, rfl⟩
  unfold pyNext
  refine wpAny_bind (wpAny_attempt (wpAny_callSpecial?_slot (name := Str.ofString "__next__") hT F.slot_enumerate_next
    (wpAny_call_entry F.slot_enumerate_next hT F.entry_enumerate_next ?_ (F.args_enumerate_next_1 _))))
  show wpAny _ _ (field (.ref e) 2 >>= _) _ _ _
  refine wpAny_bind (wpAny_field he rfl (x := .ref it) rfl ?_)
  refine wpAny_bind (wpAny_nextOf_tuple_end hh hit hl hx fun h' x he' hx' => ?_)
  obtain ⟨o, ho, hc⟩ := hx'
  refine wpAny_bind (wpAny_isInstance (T := "StopIteration") (b := true) ⟨o, ho, hc⟩ isSubtype_stop ?_)
  exact wpAny_pure (hQ _ he')
/-- the tuple at a, each item in a new pair -/
def IteT (K : PySem.W.Frag) (a : Addr) : It :=
  ⟨fun i H => ∃ (xs : List V) (x : V), SqT K H a xs ∧ xs[i]? = some x, fun i H v H' => ∃ T x, v = .ref T ∧ H T = none ∧ H' = upd H T (.tup [.int (i : Nat), x]) ∧ ∀ xs, SqT K H a xs → xs[i]? = some x, fun i H => ∃ xs : List V, SqT K H a xs ∧ xs.length ≤ i⟩
theorem turn_enumT {P : Program} {w : World} {K : PySem.W.Frag} {elts : List Expr} {kk : Nat} {tpos : Pos} (a e it : Addr) (hai : a ≠ it) (hae : a ≠ e) :
    Turn P w K (.Tuple elts kk tpos) (IteT K a) [e, it] e (fun i h => (∃ old, IsEnum h e it ((i : Nat) : Int) old) ∧ h.IsTupleIter it a i ∧ e ≠ it) where
  mem := by simp
  obj := fun i h st b hb => by
    obtain ⟨⟨old, he⟩, ⟨o, ho, hc, hd⟩, _⟩ := st
    have e' : b = e ∨ b = it := by simpa using hb
    rcases e' with z | z
    · rw [z]; exact ⟨_, he, fun v q => nomatch q⟩
    · rw [z]; exact ⟨o, ho, fun v q => by rw [hd] at q; cases q⟩
  keep := fun i h h' st k => let ⟨⟨old, he⟩, hi, hne⟩ := st; ⟨⟨old, k e (by simp) _ he⟩, hi.at fun o q => k it (by simp) o q, hne⟩
  item := by
    intro X hP hw hK hc i pins s σ H E I hf st hg
    subst hP hw hK
    obtain ⟨⟨old, he⟩, hit, hne⟩ := st
    obtain ⟨xs, x, hq, hx⟩ := hg
    obtain ⟨its, rv, p, hz⟩ := I.tuple hq
    obtain ⟨u, hu, ru⟩ := rv.get hx
    have hel : e < s.heap.objs.size := Heap.lt_size he
    have hil : it < s.heap.objs.size := by obtain ⟨_, q, _⟩ := hit; exact Heap.lt_size q
    have hlt : i < its.toArray.size := by
      have := (List.getElem?_eq_some_iff.mp hu).1
      simpa using this
    have hp : s.heap.IsTuple a its.toArray := p
    refine wpAny_pyNext_enum_itemD (Draws.tuple (prog := X.prog) (w := X.w) (A := X.A.in1) (I.ok.hd hc) it a hai its.toArray) he ⟨hit, hp⟩ hlt hne (by simp [hne, Ne.symm hae]) fun x' h' tk px ho st' hT hsz hk => ?_
    have ex : x' = u := by
      have : its.toArray[i]? = some u := by simpa using hu
      rw [this] at px; exact (Option.some.inj px).symm
    subst ex
    obtain ⟨hit', _⟩ := st'
    refine ⟨_, rfl, wpAny_letOwnedTupleGo_enum (s := { s with heap := h', toks := tk + 1 }) ho fun h'' he' sb => ?_⟩
    have hT2 : h''.get? s.heap.objs.size = some { cls := .type "tuple", data := .seq #[.int i tk, x'] } := (sb.2 _ (Nat.ne_of_gt hel)).trans hT
    have new : ObjOk X.prog X.w (upd H s.heap.objs.size (.tup [.int (i : Nat), x])) h'' s.heap.objs.size (.tup [.int (i : Nat), x]) :=
      ⟨by show 2 ≤ sizeLine; decide, [.int i tk, x'], .cons ⟨_, rfl⟩ (.cons ru .nil), ⟨_, hT2, rfl, _, rfl⟩⟩
    have I1 : Inv X pins σ (upd H s.heap.objs.size (.tup [.int (i : Nat), x])) { s with heap := h'', toks := tk + 1 } :=
      I.turnedNew (ch := [e, it]) (fun b ob hb q => (sb.2 b (fun z => hb (by simp [z]))).trans (hk b ob (fun z => hb (by simp [z])) (fun z => hb (by simp [z])) q)) hf (Nat.le_refl _) new
    refine ⟨.ref s.heap.objs.size, _, I1, rfl, ⟨_, x, rfl, I.hok.fresh (Nat.le_refl _), rfl, fun ys hy => by rw [I.tuple_inj hy hq]; exact hx⟩, ⟨⟨x', ?_⟩, hit'.at fun o q => (sb.2 it (Ne.symm hne)).trans q, hne⟩, fun b hb => ?_⟩
    · have e1 : ((i + 1 : Nat) : Int) = (i : Int) + 1 := by omega
      rw [e1]; exact he'
    · have hb' : b < s.heap.objs.size := by
        have e' : b = e ∨ b = it := by simpa using hb
        rcases e' with z | z
        · rw [z]; exact hel
        · rw [z]; exact hil
      rw [upd_ne (Nat.ne_of_lt hb')]
      exact (hf b hb).1
  done := by
    intro X hP hw hK hc i pins s σ H E I hf st hg
    subst hP hw hK
    obtain ⟨⟨old, he⟩, hit, hne⟩ := st
    obtain ⟨xs, hq, hx⟩ := hg
    obtain ⟨its, rv, p, hz⟩ := I.tuple hq
    obtain ⟨f0, f1, f2, f3, f4, f5⟩ := hf it (by simp)
    have hl := rv.length
    have hp : s.heap.IsTuple a its.toArray := p
    have hge : its.toArray[i]? = none := by simp; omega
    -- the iterator at i, past the end: as at the end
    refine wpAny_pyNext_enum_endT (I.ok.hd hc) he hit hp hge fun h' eb => ⟨rfl, I.turned (t' := s.toks) (fun b o hb q => eb b o hb q) f0 f1 f3 f4 f5⟩
  self := fun A i s Q E st h => let ⟨⟨_, he⟩, _⟩ := st; wpAny_pyIter_enum he h
def iEnumT (K : PySem.W.Frag) (ta : TA) : TI := fun σ H R => ta σ H fun vs H1 => ∃ a xs, vs = [.ref a] ∧ SqT K H1 a xs ∧ R (IteT K a) H1
theorem pi_enumT {X : Cx} {e : Expr} {ta : TA} {p pos tpos : Pos} {elts : List Expr} {kk : Nat} (hg : Gl X "enumerate") (hm : X.mg "enumerate" = none) (ha : PA X [e] ta) (hs : starEach [e] X.env = [(false, eval e X.env)] := by rfl) :
    PI X (.Tuple elts kk tpos) (.Call (.Name "enumerate" p) [e] [] pos) (iEnumT X.K ta) := by
  refine ⟨fun pins s σ H R I h => ?_⟩
  refine Call_ (ld_blt I hg hm boot_enumerate (PyProof.Rows.callWith_type1 (thn (ha.run pos pins s σ H _ I h) fun us s1 ⟨vs, H1, I1, r1, q1⟩ => ?_) hs rfl))
  obtain ⟨a, xs, ex, hq, q⟩ := q1
  subst ex
  cases r1 with
  | cons r rr =>
    cases rr
    cases r
    obtain ⟨its, rv, p', hz⟩ := I1.tuple hq
    have hp : s1.heap.IsTuple a its.toArray := p'
    have hal : a < s1.heap.objs.size := by obtain ⟨_, q, _⟩ := hp; exact Heap.lt_size q
    refine call_enumerate_tuple hp fun h' he hit hsz hk => wpAny_pyIter_enum he ?_
    have I2 : Inv X pins σ H1 { s1 with heap := h' } := I1.kept (t' := s1.toks) hk
    refine ⟨s1.heap.objs.size + 1, [s1.heap.objs.size + 1, s1.heap.objs.size], _, _, H1, rfl, I2, turn_enumT a (s1.heap.objs.size + 1) s1.heap.objs.size (Nat.ne_of_lt hal) (Nat.ne_of_lt (Nat.lt_succ_of_lt hal)), ⟨⟨.none, he⟩, hit, Nat.succ_ne_self _⟩, fun b hb => ?_, q⟩
    have e' : b = s1.heap.objs.size + 1 ∨ b = s1.heap.objs.size := by simpa using hb
    have hle : s1.heap.objs.size ≤ b := by
      rcases e' with z | z
      · rw [z]; exact Nat.le_add_right _ _
      · rw [z]; exact Nat.le_refl _
    exact I1.fpOk hle (I1.hok.fresh hle)
/-- enumerate of a tuple, as data -/
abbrev enD {α : Type} (enc : α → PyData) (xs : List α) : List PyData := xs.zipIdx.map fun p => .tuple [.int (p.2 : Int), enc p.1]
theorem enD_get {α : Type} {enc : α → PyData} {xs : List α} {i : Nat} {d : α} (h : xs[i]? = some d) : (enD enc xs)[i]? = some (.tuple [.int (i : Int), enc d]) := by
  rw [List.getElem?_map, List.getElem?_zipIdx, h]
  simp
theorem walk_enumT {α : Type} {enc : α → PyData} {K : PySem.W.Frag} {p : Addr} {xs : List V} {ds : List α} {G : Hp → Prop} (hG : ∀ H', G H' → SqT K H' p xs ∧ DpAll K H' xs (ds.map enc)) (hl : xs.length = ds.length) :
    Walk (IteT K p) (enD enc ds).length G (YD K (enD enc ds)) := by
  have hn : (enD enc ds).length = ds.length := by rw [List.length_map, List.length_zipIdx]
  refine ⟨fun i H' hi g => ?_, fun H' g => ?_, fun i H' x H'' hi g y => ?_⟩
  · have hi' : i < xs.length := by rw [hn] at hi; omega
    exact ⟨xs, xs[i], (hG _ g).1, List.getElem?_eq_getElem hi'⟩
  · exact ⟨xs, (hG _ g).1, by rw [hn]; omega⟩
  · obtain ⟨T, u, rfl, hT, rfl, hu⟩ := y
    obtain ⟨d, h1, h2⟩ := (hG _ g).2.get (hu xs (hG _ g).1)
    obtain ⟨a, h3, rfl⟩ := map_get h1
    exact ⟨Ex.new hT, _, enD_get h3, .tup (.inl (.inl upd_same)) (.cons (.int _) (.cons (h2.ex (Ex.new hT)) .nil))⟩
theorem ei_enum {α : Type} {enc : α → PyData} {K : PySem.W.Frag} {σ : L2.St} {H : Hp} {ds : List α} {tr : TA} (h : EDs K tr σ H [.tuple (ds.map enc)]) : EI K (iEnumT K tr) σ H Ex (enD enc ds) := fun R k =>
  h H (Ex.refl _) _ fun vs H2 e2 p => by
    obtain ⟨x, rfl, px⟩ := dpa1 p
    obtain ⟨pa, us, rfl, h1, h2⟩ := dp_tup px
    exact ⟨pa, us, rfl, h1, k _ H2 e2 (walk_enumT (fun H' g => ⟨ex_t g h1, h2.ex g⟩) (by rw [h2.length, List.length_map]))⟩
/-- .. where tuples stay -/
theorem ei_enumK {α : Type} {enc : α → PyData} {K : PySem.W.Frag} {σ : L2.St} {H : Hp} {ds : List α} {tr : TA} (h : EDs K tr σ H [.tuple (ds.map enc)]) (ht : stayAll (ds.map enc) = true) : EI K (iEnumT K tr) σ H TK (enD enc ds) := fun R k =>
  h H (Ex.refl _) _ fun vs H2 e2 p => by
    obtain ⟨x, rfl, px⟩ := dpa1 p
    obtain ⟨pa, us, rfl, h1, h2⟩ := dp_tup px
    exact ⟨pa, us, rfl, h1, k _ H2 e2 (walk_enumT (fun H' g => ⟨h1.imp (fun r => g _ _ r) id, dpa_tk g _ us ht h2⟩) (by rw [h2.length, List.length_map]))⟩
section
variable {X : Cx}
/-! ### tuple.index of ints -/
def rTIndex (K : PySem.W.Frag) : V → List V → Hp → VK → Prop := fun x xs H Q => ∃ (p : Addr) (ns : List Int) (n : Int) (j : Nat), x = .ref p ∧ xs = [.int n] ∧ SqT K H p (ns.map V.int) ∧ ns[j]? = some n ∧ (∀ m, m < j → ns[m]? ≠ some n) ∧ Q (.int (j : Nat)) H
theorem mt_tindex : MtR X "tuple.index" (rTIndex X.K) := by
  intro pins s σ H x xs v us Q I rx rs h
  obtain ⟨p, ys, z, j, rfl, rfl, hq, hy, hno, q⟩ := h
  cases rx
  obtain ⟨u, rfl, t, rfl⟩ := vals1 rs
  obtain ⟨its, r, pl, hz⟩ := I.tuple hq
  obtain ⟨⟨cls, dd, dt, sl⟩, ho, hc, n, hd⟩ := pl
  simp only at hc hd
  subst hc
  subst hd
  have hl : its.toArray.size = ys.length := by rw [List.size_toArray, ← r.length, List.length_map]
  have hj : j < its.toArray.size := by rw [hl]; exact (List.getElem?_eq_some_iff.mp hy).1
  have at' : ∀ (m : Nat) (hm : m < its.toArray.size), ∃ y t', ys[m]? = some y ∧ its.toArray[m] = Value.int y t' := fun m hm => by
    have hm' : m < ys.length := by rw [← hl]; exact hm
    obtain ⟨w, hw, t', hw'⟩ := r.get (i := m) (x := .int ys[m]) (by simp [hm'])
    refine ⟨ys[m], t', List.getElem?_eq_getElem hm', ?_⟩
    have e := (List.getElem?_eq_some_iff.mp hw).2
    rw [← hw', ← e]
    simp
  refine call_meets PySem.F.slot_tuple_index ⟨_, ho, rfl⟩ PySem.F.entry_tuple_index (PySem.F.args_tuple_index_2 _ _) (TI.tuple_indexAt p its.toArray n dd sl (.int z t) (eqU (.int z)) j hj ?_ ?_)
    ⟨ho, fun w hw => mem_eqAt (x := .int z) ⟨t, rfl⟩ rfl r flat_ints w (by simpa using hw), ⟨.int (j : Nat), H, I.tok _, ⟨_, rfl⟩, q⟩⟩
  · obtain ⟨y, t', h1, h2⟩ := at' j hj
    rw [hy] at h1
    cases h1
    rw [h2]
    show (z == z) = true
    exact beq_self_eq_true z
  · intro m hm hmj
    obtain ⟨y, t', h1, h2⟩ := at' m hm
    have hne : y ≠ z := fun e => hno m hmj (by rw [h1, e])
    rw [h2]
    show (y == z) = false
    exact beq_eq_false_iff_ne.mpr hne
/-! ### x in t, x not in t: data -/
def rInDT (K : PySem.W.Frag) : R2 := fun x y H Q => ∃ d ds, Dp K H x d ∧ Dp K H y (.tuple ds) ∧ SeqAt.shaped d = true ∧ SeqAt.shaped (.tuple ds) = true ∧ Q (.bl (ds.any fun z => PyData.eqv z d)) H
theorem op_inDT (hu : X.A.units + 65 < cLine) : OpR X (compareOp .In) (rInDT X.K) := by
  intro pins s σ H x y v u Q I rx ry h
  obtain ⟨d, ds, hd, he, sd, se, q⟩ := h
  obtain ⟨as, r1⟩ := Dp.reads I d x v hd rx
  obtain ⟨bs, r2⟩ := Dp.reads I (.tuple ds) y u he ry
  exact SeqAt.in_tuple_reads r2 r1 (SeqAt.canLay_of_shaped se) (SeqAt.canLay_of_shaped sd) (room_in_shaped sd hu) ⟨.bl _, H, I, rfl, q⟩
/-! ### a list against an empty list -/
def rEqE (K : PySem.W.Frag) : R2 := fun x y H Q => ∃ a b xs, x = .ref a ∧ y = .ref b ∧ SqL K H a xs ∧ SqL K H b [] ∧ Q (.bl xs.isEmpty) H
def rNeE (K : PySem.W.Frag) : R2 := fun x y H Q => ∃ a b xs, x = .ref a ∧ y = .ref b ∧ SqL K H a xs ∧ SqL K H b [] ∧ Q (.bl (!xs.isEmpty)) H
theorem op_eqE (hu : X.A.units < cLine) : OpR X (compareOp .Eq) (rEqE X.K) := by
  intro pins s σ H x y v u Q I rx ry h
  obtain ⟨a, b, xs, rfl, rfl, ha, hb, q⟩ := h
  cases rx; cases ry
  obtain ⟨its, r, pl, hz⟩ := I.list ha
  obtain ⟨its2, r2, pl2, hz2⟩ := I.list hb
  cases r2
  cases r with
  | nil => exact SeqAt.eq_listAt (e := fun _ => true) pl.isList pl2.isList rfl hu (fun j h1 h2 => absurd h1 (by simp)) ⟨.bl _, H, I, rfl, q⟩
  | cons rv rt => exact SeqAt.eq_list_lengthsAt pl.isList pl2.isList (by simp) hu ⟨.bl _, H, I, rfl, q⟩
theorem op_neE (hu : X.A.units < cLine) : OpR X (compareOp .NotEq) (rNeE X.K) := by
  intro pins s σ H x y v u Q I rx ry h
  obtain ⟨a, b, xs, rfl, rfl, ha, hb, q⟩ := h
  cases rx; cases ry
  obtain ⟨its, r, pl, hz⟩ := I.list ha
  obtain ⟨its2, r2, pl2, hz2⟩ := I.list hb
  cases r2
  cases r with
  | nil => exact SeqAt.RcNeAt.lists (e := fun _ => true) pl.isList pl2.isList rfl hu (fun j h1 h2 => absurd h1 (by simp)) X.prog X.w _ _ ⟨.bl _, H, I, rfl, q⟩
  | cons rv rt => exact SeqAt.RcNeAt.lists_lengths pl.isList pl2.isList (by simp) hu X.prog X.w _ _ ⟨.bl _, H, I, rfl, q⟩
/-! ### range(n) as a value, walked -/
theorem cr_range1 : CallR X (.type "range") (fun vs H Q => ∃ j, vs = [V.int j] ∧ ∀ p, H p = none → Q (.ref p) (upd H p (.rng 0 j))) := by
  intro pins s σ H vs us Q I r h
  obtain ⟨j, rfl, q⟩ := h
  obtain ⟨u1, rfl, ri⟩ := vals1 r
  obtain ⟨t, rfl⟩ := ri
  refine call_range_1 ⟨.ref s.heap.objs.size, upd H s.heap.objs.size (.rng 0 j), I.laid (t' := s.toks + 1 + 1) (fun b o e => Heap.get?_push_of_some _ e) (Nat.le_refl _) ?_, rfl, q _ (I.hok.fresh (Nat.le_refl _))⟩
  exact ⟨_, _, _, Heap.get?_push_size _ rfl⟩
def iRngV (tl : TE) : TI := fun σ H R => tl σ H fun x H1 => ∃ (a : Addr) (lo hi : Int), x = .ref a ∧ H1 a = some (.rng lo hi) ∧ (-(2 ^ 62) ≤ lo ∧ lo < 2 ^ 62 ∧ -(2 ^ 62) ≤ hi ∧ hi < 2 ^ 62) ∧ R (Itr lo (hi - lo).toNat) H1
theorem pi_rngV {tg l : Expr} {tl : TE} (hl : PE X l tl) : PI X tg l (iRngV tl) := by
  refine ⟨fun pins s σ H R I h => thn (hl.run pins s σ H _ I h) fun v s1 ⟨x, H1, I1, r1, q1⟩ => ?_⟩
  obtain ⟨a, lo, hi, rfl, ha, ⟨h1, h2, h3, h4⟩, q⟩ := q1
  cases r1
  obtain ⟨t, u, z, ho⟩ := I1.hok a _ ha
  refine wpAny_pyIter_range (t := t) (u := u) (v := z) ho (small_one h1 h2 h3 h4) ?_
  refine ⟨s1.heap.objs.size, [s1.heap.objs.size], _, _, H1, rfl, I1.kept (t' := s1.toks) fun b o e => Heap.get?_push_of_some _ e, turn_range _ lo (hi - lo).toNat, ?_, fun b hb => ?_, q⟩
  · have e1 : lo + ((0 : Nat) : Int) * 1 = lo := by simp
    have e2 : (((hi - lo).toNat : Nat) : Int) - ((0 : Nat) : Int) = Builtin.Range.rangeSize lo hi 1 := by rw [rangeSize_one]; split <;> omega
    show IsRangeIter _ _ (lo + ((0 : Nat) : Int) * 1) ((((hi - lo).toNat : Nat) : Int) - ((0 : Nat) : Int)) 1
    rw [e1, e2]
    exact Heap.get?_push_size _ rfl
  · have e : b = s1.heap.objs.size := by simpa using hb
    subst e
    exact I1.fpOk (Nat.le_refl _) (I1.hok.fresh (Nat.le_refl _))
end
/-! ### the same on data -/
section
variable {K : PySem.W.Frag} {σ : L2.St} {H : Hp} {ds es : List PyData} {d : PyData}
theorem rd_inDT (h1 : SeqAt.shaped d = true) (h2 : SeqAt.shaped (.tuple ds) = true) : RD K (rInDT K) d (.tuple ds) (.bool (ds.any fun z => PyData.eqv z d)) := fun H x y px py Q q =>
  ⟨d, ds, px, py, h1, h2, q _ H (Ex.refl _) (.bl _)⟩
theorem rd_niD (h1 : SeqAt.shaped d = true) (h2 : SeqAt.shaped (.list ds) = true) : RD K (rNotInD K) d (.list ds) (.bool (!ds.any fun z => PyData.eqv z d)) := fun H x y px py Q q =>
  ⟨d, ds, px, py, h1, h2, q _ H (Ex.refl _) (.bl _)⟩
theorem rd_eqE : RD K (rEqE K) (.list ds) (.list []) (.bool ds.isEmpty) := fun H x y px py Q q => by
  obtain ⟨a, xs, rfl, h1, h2⟩ := dp_lst px
  obtain ⟨b, ys, rfl, h3, h4⟩ := dp_lst py
  cases h4
  refine ⟨a, b, xs, rfl, rfl, h1, h3, ?_⟩
  have : xs.isEmpty = ds.isEmpty := by cases h2 <;> rfl
  rw [this]
  exact q _ H (Ex.refl _) (.bl _)
theorem rd_neE : RD K (rNeE K) (.list ds) (.list []) (.bool (!ds.isEmpty)) := fun H x y px py Q q => by
  obtain ⟨a, xs, rfl, h1, h2⟩ := dp_lst px
  obtain ⟨b, ys, rfl, h3, h4⟩ := dp_lst py
  cases h4
  refine ⟨a, b, xs, rfl, rfl, h1, h3, ?_⟩
  have : xs.isEmpty = ds.isEmpty := by cases h2 <;> rfl
  rw [this]
  exact q _ H (Ex.refl _) (.bl _)
/-- the place of an int in a list of ints -/
def idxI (n : Int) : List Int → Nat
  | [] => 0
  | m :: ms => if m = n then 0 else idxI n ms + 1
theorem idxI_get {n : Int} : ∀ {ns : List Int}, n ∈ ns → ns[idxI n ns]? = some n
  | m :: ms, h => by
    unfold idxI
    by_cases e : m = n
    · rw [if_pos e, e]; rfl
    · rw [if_neg e]
      have : n ∈ ms := by
        rcases List.mem_cons.mp h with z | z
        · exact absurd z.symm e
        · exact z
      simpa using idxI_get this
theorem idxI_no {n : Int} : ∀ {ns : List Int} {m : Nat}, m < idxI n ns → ns[m]? ≠ some n
  | [], m, h => by simp [idxI] at h
  | k :: ms, m, h => by
    unfold idxI at h
    by_cases e : k = n
    · rw [if_pos e] at h; omega
    · rw [if_neg e] at h
      cases m with
      | zero => intro q; exact e (Option.some.inj q)
      | succ m => simpa using idxI_no (ns := ms) (m := m) (by omega)
/-- the scheme at p: a tuple that is known to have no dict of its own -/
def SchA (H : Hp) (p : Addr) (ns : List Int) : Prop := ∃ o, H p = some (.frz o (.tup (ns.map V.int))) ∧ o.dict = none
theorem SchA.ex {H H' : Hp} {p : Addr} {ns : List Int} (h : SchA H p ns) (e : Ex H H') : SchA H' p ns := let ⟨o, h1, h2⟩ := h; ⟨o, e _ _ h1, h2⟩
theorem SchA.sq {H : Hp} {p : Addr} {ns : List Int} (h : SchA H p ns) : SqT K H p (ns.map V.int) := let ⟨o, h1, _⟩ := h; .inl (.inr ⟨o, h1⟩)
/-- t.index(n) -/
def tTIx (to te : TE) : TE := fun σ H Q => to σ H fun x H1 => ∃ (p : Addr) (ns : List Int), x = .ref p ∧ SchA H1 p ns ∧ te σ H1 fun y H2 => ∃ n, y = .int n ∧ n ∈ ns ∧ SchA H2 p ns ∧ Q (.int (idxI n ns : Nat)) H2
theorem pe_tindex {X : Cx} {o e : Expr} {to te : TE} {apos cpos : Pos} (ho : PE X o to) (he : PE X e te) (hbase : attributeBase o "index" X.env (eval o X.env) = eval o X.env := by rfl)
    (hfew : ((backTo cpos (starEach [e] X.env)).all (fun x => !x.1) && (backToKw cpos (keywordEach [] X.env)).all (fun x => x.1.isSome)
      && decide ([e].length + ([] : List Keyword).length + (if ([] : List Keyword).isEmpty then 0 else 1) < 30)) = true := by rfl)
    (hline : (apos.endLine == cpos.line) = true := by rfl) (hs : starEach [e] X.env = (false, eval e X.env) :: starEach [] X.env := by rfl) :
    PE X (.Call (.Attribute o "index" apos) [e] [] cpos) (tTIx to te) := by
  refine ⟨fun pins s σ H Q I h => ?_⟩
  refine wpAny_Call_method_late hbase hfew hline rfl (thn (ho.run pins s σ H _ I h) fun v s1 ⟨x, H1, I1, r1, q1⟩ => ?_)
  obtain ⟨p, ns, rfl, hS, q1⟩ := q1
  cases r1
  obtain ⟨ob, hp, hdn⟩ := id hS
  obtain ⟨hob, _⟩ := I1.hok p _ hp
  obtain ⟨its, r, ⟨o2, ho2, hc2, _⟩, hz⟩ := I1.tuple (hS.sq (K := X.K))
  refine ⟨"tuple", "tuple.index", PySem.F.plainAttrs_tuple, PySem.F.slot_tuple_index, PySem.F.type_tuple_index, ⟨o2, ho2, hc2⟩, fun a e => ?_, ?_⟩
  · cases e
    exact ⟨ob, hob, hdn⟩
  · have hA := (pa_cons he pa_nil hs).run cpos pins s1 σ H1 (fun vs H2 => ∃ n, vs = [.int n] ∧ n ∈ ns ∧ SchA H2 p ns ∧ Q (.int (idxI n ns : Nat)) H2) I1 (by
      have k : tCons te tNil σ H1 (fun vs H2 => ∃ n, vs = [.int n] ∧ n ∈ ns ∧ SchA H2 p ns ∧ Q (.int (idxI n ns : Nat)) H2) ↔ te σ H1 (fun y H2 => ∃ n, [y] = [V.int n] ∧ n ∈ ns ∧ SchA H2 p ns ∧ Q (.int (idxI n ns : Nat)) H2) := Iff.rfl
      rw [k]
      have f : (fun (y : V) (H2 : Hp) => ∃ n, [y] = [V.int n] ∧ n ∈ ns ∧ SchA H2 p ns ∧ Q (.int (idxI n ns : Nat)) H2) = (fun y H2 => ∃ n, y = V.int n ∧ n ∈ ns ∧ SchA H2 p ns ∧ Q (.int (idxI n ns : Nat)) H2) := by
        funext y H2
        refine propext ⟨fun ⟨n, e, r⟩ => ⟨n, (List.cons.inj e).1, r⟩, fun ⟨n, e, r⟩ => ⟨n, by rw [e], r⟩⟩
      rw [f]
      exact q1)
    rw [hs] at hA ⊢
    refine Calls.callWith_builtin (by rfl) (Calls.evalArgs_plain ?_)
    refine thn hA fun us s2 ⟨vs, H2, I2, r2, n, ev, hm, hS2, q2⟩ => ?_
    subst ev
    exact mt_tindex pins s2 σ H2 (.ref p) [.int n] _ us Q I2 rfl r2 ⟨p, ns, n, _, rfl, rfl, hS2.sq, idxI_get hm, fun m => idxI_no, q2⟩
/-- tuple(xs) of ints, known to have no dict -/
def rTupN (K : PySem.W.Frag) : List V → Hp → VK → Prop := fun xs H Q => ∃ (p : Addr) (ns : List Int), xs = [.ref p] ∧ SqL K H p (ns.map V.int) ∧ ∀ l H', H l = none → Ex H H' → SchA H' l ns → Q (.ref l) H'
theorem call_tupleN {X : Cx} : CallR X (.type "tuple") (rTupN X.K) := by
  intro pins s σ H xs us Q I r h
  obtain ⟨p, ns, rfl, hL, q⟩ := h
  obtain ⟨u, rfl, ru⟩ := vals1 r
  cases ru
  obtain ⟨its, rv, pl, hz⟩ := I.list hL
  have hlen := rv.length
  refine call_tuple_list pl.isList (fun h' kp => ?_) (by simp only [List.size_toArray] <;> omega)
  have I1 : Inv X pins σ H { s with heap := h' } := I.kept (t' := s.toks) kp
  have ho : (h'.push { cls := .type "tuple", data := .seq its.toArray }).get? h'.objs.size = some { cls := .type "tuple", data := .seq its.toArray } := Heap.get?_push_size _ rfl
  have I2 : Inv X pins σ (upd H h'.objs.size (.frz { cls := .type "tuple", data := .seq its.toArray } (.tup (ns.map V.int)))) { s with heap := h'.push { cls := .type "tuple", data := .seq its.toArray } } :=
    I1.laid (t' := s.toks) (fun b o e => Heap.get?_push_of_some _ e) (Nat.le_refl _) (show ObjOk X.prog X.w _ _ _ (.frz _ (.tup (ns.map V.int))) from ⟨ho, hz, its, rv, IsTup.new _ _⟩)
  have hn := I1.hok.fresh (Nat.le_refl h'.objs.size)
  exact ⟨.ref h'.objs.size, _, I2, rfl, q _ _ hn (Ex.new hn) ⟨_, upd_same, rfl⟩⟩
end
end BB
/-! K2: the text by places, what the walk asks of the top. Printed by mkk2.py. -/
namespace BB
open PySem L2 Evl
def top (i : Nat) : Stmt := PySem.Challenge.pw_behindboth_k04_the_whole_by_all_tags.main.body.getD i (.Pass ⟨0, 0, 0, 0⟩)
abbrev st_Refused_init : Stmt := inClass (top 1) 0
abbrev st_is_whole_number : Stmt := top 10
abbrev st_is_between : Stmt := top 11
abbrev st_is_below : Stmt := top 12
abbrev st_is_rising : Stmt := top 13
abbrev st_is_scheme : Stmt := top 14
abbrev st_has_size : Stmt := top 15
abbrev st_first_wrong : Stmt := top 16
abbrev st_made_book : Stmt := top 17
abbrev st_is_book : Stmt := top 18
abbrev st_shared_of : Stmt := top 19
abbrev st_are_neighbours : Stmt := top 20
abbrev st_is_worth : Stmt := top 24
abbrev st_is_row : Stmt := top 25
abbrev st_wrong_row : Stmt := top 26
abbrev st_wrong_place : Stmt := top 27
abbrev st_has_entries : Stmt := top 28
abbrev st_want_data : Stmt := top 29
abbrev st_is_data : Stmt := top 30
abbrev st_made_data : Stmt := top 31
abbrev st_has_tags_form : Stmt := top 32
abbrev st_lacking : Stmt := top 33
abbrev st_is_tags : Stmt := top 34
abbrev st_have : Stmt := top 35
abbrev st_rank : Stmt := top 36
abbrev st_in_order : Stmt := top 37
abbrev st_Fits_init : Stmt := inClass (top 40) 0
abbrev st_Fits_rows : Stmt := inClass (top 40) 1
abbrev st_Fits_hold : Stmt := inClass (top 40) 2
abbrev st_Fits_fits_all : Stmt := inClass (top 40) 3
abbrev st_Fits_fitting : Stmt := inClass (top 40) 4
abbrev st_Fits_greatest : Stmt := inClass (top 40) 5
abbrev st_Fits_piece : Stmt := inClass (top 40) 6
abbrev st_Fits_fits_row : Stmt := inClass (top 40) 7
abbrev st_Fits_rows_beside : Stmt := inClass (top 40) 8
abbrev st_Fits_tags : Stmt := inClass (top 40) 9
abbrev st_lots_of : Stmt := top 41
abbrev st_whole_of : Stmt := top 42
abbrev st_whole : Stmt := top 43
abbrev st_is_told_whole : Stmt := top 44
abbrev st_is_whole : Stmt := top 45
abbrev st_piece_with : Stmt := top 47
abbrev st_pieces_of : Stmt := top 48
abbrev st_hangs_of : Stmt := top 49
abbrev st_worth_at : Stmt := top 51
abbrev st_agree : Stmt := top 52
abbrev st_are_lot : Stmt := top 53
abbrev st_is_lot : Stmt := top 54
abbrev st_lies_within : Stmt := top 55
abbrev st_lies_in : Stmt := top 56
abbrev st__law_pool : Stmt := top 58
abbrev st__law_take : Stmt := top 59
abbrev st__law_one : Stmt := top 60
abbrev st__law_mixed : Stmt := top 61
abbrev st__law_rising : Stmt := top 62
abbrev st__law_common_columns : Stmt := top 63
abbrev st__law_are_near : Stmt := top 64
abbrev st__law_pieces_of : Stmt := top 65
abbrev st__law_is_hung : Stmt := top 66
abbrev st__law_scheme : Stmt := top 67
abbrev st__law_loose_book : Stmt := top 68
abbrev st__law_hung_book : Stmt := top 69
abbrev st__law_fellow_columns : Stmt := top 70
abbrev st__law_same_columns : Stmt := top 71
abbrev st__law_called : Stmt := top 72
abbrev st__law_glued : Stmt := top 73
abbrev st__law_ringless_book : Stmt := top 74
abbrev st__law_ring_book : Stmt := top 75
abbrev st__law_some_book : Stmt := top 76
abbrev st__law_data : Stmt := top 77
abbrev st__law_worth : Stmt := top 78
abbrev st__law_filled : Stmt := top 79
abbrev st__law_is_agreed : Stmt := top 80
abbrev st__law_sort_key : Stmt := top 81
abbrev st__law_in_order : Stmt := top 82
abbrev st__law_is_in : Stmt := top 83
abbrev st__law_every_tags : Stmt := top 84
abbrev st__law_are_lot : Stmt := top 85
abbrev st__law_greatest : Stmt := top 86
abbrev st__law_heard : Stmt := top 87
abbrev st__law_is_right : Stmt := top 88
abbrev st__law_bent_right : Stmt := top 89
abbrev st_law : Stmt := top 90
/-- a def of the module -/
structure DefT (K : PySem.W.Frag) (mg : Str → Option Value) (x : Str) (st : Stmt) (ps : List Str) where
  f : Addr
  fd : FuncData
  F : Fun K x x st f fd
  g : mg x = some (.ref f)
  b : Binds K fd ps []
structure Txt (K : PySem.W.Frag) (mg : Str → Option Value) where
  b_len : mg "len" = none
  b_tuple : mg "tuple" = none
  b_all : mg "all" = none
  b_any : mg "any" = none
  b_isinstance : mg "isinstance" = none
  b_int : mg "int" = none
  b_bool : mg "bool" = none
  b_range : mg "range" = none
  b_enumerate : mg "enumerate" = none
  b_zip : mg "zip" = none
  b_sorted : mg "sorted" = none
  b_list : mg "list" = none
  b_dict : mg "dict" = none
  b_max : mg "max" = none
  b_min : mg "min" = none
  b_repr : mg "repr" = none
  t_MOST_COLUMNS : Tok
  c_MOST_COLUMNS : mg "MOST_COLUMNS" = some (.int 24 t_MOST_COLUMNS)
  t_MOST_IN_SCHEME : Tok
  c_MOST_IN_SCHEME : mg "MOST_IN_SCHEME" = some (.int 8 t_MOST_IN_SCHEME)
  t_MOST_SOURCES : Tok
  c_MOST_SOURCES : mg "MOST_SOURCES" = some (.int 12 t_MOST_SOURCES)
  t_MOST_WORTH : Tok
  c_MOST_WORTH : mg "MOST_WORTH" = some (.int 999999 t_MOST_WORTH)
  t_MOST_ROWS : Tok
  c_MOST_ROWS : mg "MOST_ROWS" = some (.int 40 t_MOST_ROWS)
  t_MOST_LOTS : Tok
  c_MOST_LOTS : mg "MOST_LOTS" = some (.int 3000 t_MOST_LOTS)
  d_is_whole_number : DefT K mg "is_whole_number" st_is_whole_number ["thing"]
  d_is_between : DefT K mg "is_between" st_is_between ["thing", "least", "most"]
  d_is_below : DefT K mg "is_below" st_is_below ["thing", "bound"]
  d_is_rising : DefT K mg "is_rising" st_is_rising ["thing", "bound"]
  d_is_scheme : DefT K mg "is_scheme" st_is_scheme ["thing"]
  d_has_size : DefT K mg "has_size" st_has_size ["thing"]
  d_first_wrong : DefT K mg "first_wrong" st_first_wrong ["thing"]
  d_made_book : DefT K mg "made_book" st_made_book ["thing"]
  d_is_book : DefT K mg "is_book" st_is_book ["thing"]
  d_shared_of : DefT K mg "shared_of" st_shared_of ["book", "i", "j"]
  d_are_neighbours : DefT K mg "are_neighbours" st_are_neighbours ["book", "i", "j"]
  d_is_worth : DefT K mg "is_worth" st_is_worth ["thing"]
  d_is_row : DefT K mg "is_row" st_is_row ["book", "source", "thing"]
  d_wrong_row : DefT K mg "wrong_row" st_wrong_row ["book", "source", "rows"]
  d_wrong_place : DefT K mg "wrong_place" st_wrong_place ["book", "thing"]
  d_has_entries : DefT K mg "has_entries" st_has_entries ["book", "thing"]
  d_want_data : DefT K mg "want_data" st_want_data ["book", "thing"]
  d_is_data : DefT K mg "is_data" st_is_data ["book", "thing"]
  d_made_data : DefT K mg "made_data" st_made_data ["book", "thing"]
  d_has_tags_form : DefT K mg "has_tags_form" st_has_tags_form ["book", "thing"]
  d_lacking : DefT K mg "lacking" st_lacking ["data", "tags"]
  d_is_tags : DefT K mg "is_tags" st_is_tags ["book", "data", "thing"]
  d_have : DefT K mg "have" st_have ["tags"]
  d_rank : DefT K mg "rank" st_rank ["tags"]
  d_in_order : DefT K mg "in_order" st_in_order ["lots"]
  d_lots_of : DefT K mg "lots_of" st_lots_of ["fits"]
  d_whole_of : DefT K mg "whole_of" st_whole_of ["book", "data"]
  d_whole : DefT K mg "whole" st_whole ["book", "data"]
  d_is_told_whole : DefT K mg "is_told_whole" st_is_told_whole ["book", "data", "thing"]
  d_is_whole : DefT K mg "is_whole" st_is_whole ["book", "data", "thing"]
  d_piece_with : DefT K mg "piece_with" st_piece_with ["book", "group", "source"]
  d_pieces_of : DefT K mg "pieces_of" st_pieces_of ["book", "group"]
  d_hangs_of : DefT K mg "hangs_of" st_hangs_of ["book", "group"]
  d_worth_at : DefT K mg "worth_at" st_worth_at ["book", "data", "tags", "source", "column"]
  d_agree : DefT K mg "agree" st_agree ["book", "data", "tags", "i", "j"]
  d_are_lot : DefT K mg "are_lot" st_are_lot ["book", "data", "tags"]
  d_is_lot : DefT K mg "is_lot" st_is_lot ["book", "data", "thing"]
  d_lies_within : DefT K mg "lies_within" st_lies_within ["one", "two"]
  d_lies_in : DefT K mg "lies_in" st_lies_in ["one", "two"]
  d__law_pool : DefT K mg "_law_pool" st__law_pool ["_law_script", "_law_k"]
  d__law_take : DefT K mg "_law_take" st__law_take ["_law_jar", "_law_top"]
  d__law_one : DefT K mg "_law_one" st__law_one ["_law_jar", "_law_things"]
  d__law_mixed : DefT K mg "_law_mixed" st__law_mixed ["_law_jar", "_law_things"]
  d__law_rising : DefT K mg "_law_rising" st__law_rising ["_law_lists"]
  d__law_common_columns : DefT K mg "_law_common_columns" st__law_common_columns ["_law_book", "_law_i", "_law_j"]
  d__law_are_near : DefT K mg "_law_are_near" st__law_are_near ["_law_book", "_law_i", "_law_j"]
  d__law_pieces_of : DefT K mg "_law_pieces_of" st__law_pieces_of ["_law_book", "_law_lot"]
  d__law_is_hung : DefT K mg "_law_is_hung" st__law_is_hung ["_law_book", "_law_lot"]
  d__law_scheme : DefT K mg "_law_scheme" st__law_scheme ["_law_jar", "_law_wide", "_law_most"]
  d__law_loose_book : DefT K mg "_law_loose_book" st__law_loose_book ["_law_jar", "_law_most", "_law_wide"]
  d__law_hung_book : DefT K mg "_law_hung_book" st__law_hung_book ["_law_jar", "_law_most", "_law_wide"]
  d__law_fellow_columns : DefT K mg "_law_fellow_columns" st__law_fellow_columns ["_law_book", "_law_i"]
  d__law_same_columns : DefT K mg "_law_same_columns" st__law_same_columns ["_law_jar", "_law_book"]
  d__law_called : DefT K mg "_law_called" st__law_called ["_law_book", "_law_pairs"]
  d__law_glued : DefT K mg "_law_glued" st__law_glued ["_law_jar", "_law_size", "_law_begin"]
  d__law_ringless_book : DefT K mg "_law_ringless_book" st__law_ringless_book ["_law_jar", "_law_most"]
  d__law_ring_book : DefT K mg "_law_ring_book" st__law_ring_book ["_law_jar", "_law_most"]
  d__law_some_book : DefT K mg "_law_some_book" st__law_some_book ["_law_jar", "_law_most"]
  d__law_data : DefT K mg "_law_data" st__law_data ["_law_jar", "_law_book", "_law_high", "_law_few"]
  d__law_worth : DefT K mg "_law_worth" st__law_worth ["_law_book", "_law_rows", "_law_i", "_law_tag", "_law_c"]
  d__law_filled : DefT K mg "_law_filled" st__law_filled ["_law_tags"]
  d__law_is_agreed : DefT K mg "_law_is_agreed" st__law_is_agreed ["_law_book", "_law_rows", "_law_i", "_law_one_here", "_law_j", "_law_two"]
  d__law_sort_key : DefT K mg "_law_sort_key" st__law_sort_key ["_law_tags"]
  d__law_in_order : DefT K mg "_law_in_order" st__law_in_order ["_law_lots"]
  d__law_is_in : DefT K mg "_law_is_in" st__law_is_in ["_law_one_here", "_law_two"]
  d__law_every_tags : DefT K mg "_law_every_tags" st__law_every_tags ["_law_data_here"]
  d__law_are_lot : DefT K mg "_law_are_lot" st__law_are_lot ["_law_book", "_law_data_here", "_law_tags"]
  d__law_greatest : DefT K mg "_law_greatest" st__law_greatest ["_law_book", "_law_data_here"]
  d__law_heard : DefT K mg "_law_heard" st__law_heard ["_law_call"]
  d__law_is_right : DefT K mg "_law_is_right" st__law_is_right ["_law_book", "_law_data_here", "_law_due"]
  d__law_bent_right : DefT K mg "_law_bent_right" st__law_bent_right ["_law_jar", "_law_book", "_law_data_here", "_law_due"]
  d_law : DefT K mg "law" st_law ["_law_script"]
  FC : Addr
  clF : Cls K FC
  gF : mg "Fits" = some (.ref FC)
  na_book : NoAttr K FC "book"
  na_data : NoAttr K FC "data"
  na_beside : NoAttr K FC "beside"
  na_near : NoAttr K FC "near"
  m_init_f : Addr
  m_init_fd : FuncData
  m_init_F : Fun K "__init__" "Fits.__init__" st_Fits_init m_init_f m_init_fd
  m_init_b : Binds K m_init_fd ["self", "book", "data"] []
  mkF : Mk K FC m_init_f
  m_rows_f : Addr
  m_rows_fd : FuncData
  m_rows_F : Fun K "rows" "Fits.rows" st_Fits_rows m_rows_f m_rows_fd
  m_rows_b : Binds K m_rows_fd ["self"] []
  m_rows : Meth K FC "rows" m_rows_f
  m_hold_f : Addr
  m_hold_fd : FuncData
  m_hold_F : Fun K "hold" "Fits.hold" st_Fits_hold m_hold_f m_hold_fd
  m_hold_b : Binds K m_hold_fd ["self", "i", "j"] []
  m_hold : Meth K FC "hold" m_hold_f
  m_fits_all_f : Addr
  m_fits_all_fd : FuncData
  m_fits_all_F : Fun K "fits_all" "Fits.fits_all" st_Fits_fits_all m_fits_all_f m_fits_all_fd
  m_fits_all_b : Binds K m_fits_all_fd ["self", "row", "lot"] []
  m_fits_all : Meth K FC "fits_all" m_fits_all_f
  m_fitting_f : Addr
  m_fitting_fd : FuncData
  m_fitting_F : Fun K "fitting" "Fits.fitting" st_Fits_fitting m_fitting_f m_fitting_fd
  m_fitting_b : Binds K m_fitting_fd ["self", "lot", "source"] []
  m_fitting : Meth K FC "fitting" m_fitting_f
  m_greatest_f : Addr
  m_greatest_fd : FuncData
  m_greatest_F : Fun K "greatest" "Fits.greatest" st_Fits_greatest m_greatest_f m_greatest_fd
  m_greatest_b : Binds K m_greatest_fd ["self", "lot"] []
  m_greatest : Meth K FC "greatest" m_greatest_f
  m_piece_f : Addr
  m_piece_fd : FuncData
  m_piece_F : Fun K "piece" "Fits.piece" st_Fits_piece m_piece_f m_piece_fd
  m_piece_b : Binds K m_piece_fd ["self", "lot", "row"] []
  m_piece : Meth K FC "piece" m_piece_f
  m_fits_row_f : Addr
  m_fits_row_fd : FuncData
  m_fits_row_F : Fun K "fits_row" "Fits.fits_row" st_Fits_fits_row m_fits_row_f m_fits_row_fd
  m_fits_row_b : Binds K m_fits_row_fd ["self", "source", "tag", "row"] []
  m_fits_row : Meth K FC "fits_row" m_fits_row_f
  m_rows_beside_f : Addr
  m_rows_beside_fd : FuncData
  m_rows_beside_F : Fun K "rows_beside" "Fits.rows_beside" st_Fits_rows_beside m_rows_beside_f m_rows_beside_fd
  m_rows_beside_b : Binds K m_rows_beside_fd ["self", "lot"] []
  m_rows_beside : Meth K FC "rows_beside" m_rows_beside_f
  m_tags_f : Addr
  m_tags_fd : FuncData
  m_tags_F : Fun K "tags" "Fits.tags" st_Fits_tags m_tags_f m_tags_fd
  m_tags_b : Binds K m_tags_fd ["self", "lot"] []
  m_tags : Meth K FC "tags" m_tags_f
end BB
/-! K3: books, data, tags as data; isinstance on data. -/
namespace BB
open PySem L2 Evl
/-! ### encodings -/
def intsD (ns : List Int) : List PyData := ns.map PyData.int
abbrev schD (s : List Int) : PyData := .tuple (s.map PyData.int)
def bookD (B : List (List Int)) : PyData := .tuple (B.map schD)
def rowsD (rs : List (List Int)) : PyData := .tuple (rs.map schD)
def dataD (R : List (List (List Int))) : PyData := .tuple (R.map rowsD)
def tagD : Option Nat → PyData
  | none => .none
  | some k => .int (k : Int)
def tagsD (t : List (Option Nat)) : PyData := .tuple (t.map tagD)
def natsD (g : List Nat) : PyData := .tuple (g.map fun (i : Nat) => PyData.int (i : Int))
def lotsD (ts : List (List (Option Nat))) : PyData := .tuple (ts.map tagsD)
def optD : Option Nat → PyData
  | none => .none
  | some k => .int (k : Int)
theorem natsD_eq (g : List Nat) : natsD g = .tuple ((g.map fun (i : Nat) => (i : Int)).map PyData.int) := by
  unfold natsD; rw [List.map_map]; rfl
theorem tupled_ints (ns : List Int) : tupled (.tuple (ns.map PyData.int)) = true := tupled_tup fun d h => by
  obtain ⟨n, _, rfl⟩ := List.mem_map.mp h
  rfl
theorem tupled_sch (s : List Int) : tupled (schD s) = true := tupled_ints s
theorem tupled_rows (rs : List (List Int)) : tupled (rowsD rs) = true := tupled_tup fun d h => by
  obtain ⟨n, _, rfl⟩ := List.mem_map.mp h
  exact tupled_sch n
theorem tupled_book (B : List (List Int)) : tupled (bookD B) = true := tupled_rows B
theorem tupled_data (R : List (List (List Int))) : tupled (dataD R) = true := tupled_tup fun d h => by
  obtain ⟨n, _, rfl⟩ := List.mem_map.mp h
  exact tupled_rows n
theorem tupled_tag (t : Option Nat) : tupled (tagD t) = true := by cases t <;> rfl
theorem tupled_tags (t : List (Option Nat)) : tupled (tagsD t) = true := tupled_tup fun d h => by
  obtain ⟨n, _, rfl⟩ := List.mem_map.mp h
  exact tupled_tag n
theorem tupled_lots (t : List (List (Option Nat))) : tupled (lotsD t) = true := tupled_tup fun d h => by
  obtain ⟨n, _, rfl⟩ := List.mem_map.mp h
  exact tupled_tags n
theorem tupled_nats (g : List Nat) : tupled (natsD g) = true := by rw [natsD_eq]; exact tupled_ints _
theorem stay_sch (s : List Int) : stay (schD s) = true := stay_tupled _ (tupled_sch s)
/-! ### depth -/
theorem depthAll_le {n : Nat} : ∀ {ds : List PyData}, (∀ d ∈ ds, d.depth ≤ n) → PyData.depthAll ds ≤ n
  | [], _ => by simp [PyData.depthAll]
  | d :: ds, h => by
    have h1 := depthAll_le (ds := ds) fun x hx => h x (List.mem_cons_of_mem _ hx)
    have h2 := h d List.mem_cons_self
    simp only [PyData.depthAll]
    omega
theorem depth_tup {n : Nat} {ds : List PyData} (h : ∀ d ∈ ds, d.depth ≤ n) : (PyData.tuple ds).depth ≤ n + 1 := by
  have := depthAll_le h
  simp only [PyData.depth]
  omega
theorem depth_lst {n : Nat} {ds : List PyData} (h : ∀ d ∈ ds, d.depth ≤ n) : (PyData.list ds).depth ≤ n + 1 := by
  have := depthAll_le h
  simp only [PyData.depth]
  omega
theorem shaped_of {d : PyData} (h : tupled d = true) (hd : d.depth ≤ 60) : SeqAt.shaped d = true := by
  show (d.canLay0 && decide (d.depth ≤ 64)) = true
  rw [Bool.and_eq_true]
  exact ⟨lay_tupled d h, decide_eq_true (by omega)⟩
theorem depth_ints (ns : List Int) : (PyData.tuple (ns.map PyData.int)).depth ≤ 1 := depth_tup fun d h => by
  obtain ⟨n, _, rfl⟩ := List.mem_map.mp h
  simp [PyData.depth]
theorem shaped_ints (ns : List Int) : SeqAt.shaped (.tuple (ns.map PyData.int)) = true := shaped_of (tupled_ints ns) (by have := depth_ints ns; omega)
theorem shaped_nil : SeqAt.shaped (.tuple []) = true := shaped_ints []
theorem depth_rows (rs : List (List Int)) : (rowsD rs).depth ≤ 2 := depth_tup fun d h => by
  obtain ⟨n, _, rfl⟩ := List.mem_map.mp h
  exact depth_ints n
theorem depth_data (R : List (List (List Int))) : (dataD R).depth ≤ 3 := depth_tup fun d h => by
  obtain ⟨n, _, rfl⟩ := List.mem_map.mp h
  exact depth_rows n
theorem depth_tag (t : Option Nat) : (tagD t).depth ≤ 0 := by cases t <;> simp [tagD, PyData.depth]
theorem depth_tags (t : List (Option Nat)) : (tagsD t).depth ≤ 1 := depth_tup fun d h => by
  obtain ⟨n, _, rfl⟩ := List.mem_map.mp h
  exact depth_tag n
theorem depth_lots (t : List (List (Option Nat))) : (lotsD t).depth ≤ 2 := depth_tup fun d h => by
  obtain ⟨n, _, rfl⟩ := List.mem_map.mp h
  exact depth_tags n
theorem shaped_tags (t : List (Option Nat)) : SeqAt.shaped (tagsD t) = true := shaped_of (tupled_tags t) (by have := depth_tags t; omega)
theorem shaped_lots (t : List (List (Option Nat))) : SeqAt.shaped (lotsD t) = true := shaped_of (tupled_lots t) (by have := depth_lots t; omega)
theorem _root_.L2.Room.units65 {k : Nat} {A : Around} (r : Room k A) : A.units + 65 < cLine := by have := r.un; omega
/-! ### isinstance -/
def tyName : PyData → String
  | .none => "NoneType"
  | .bool _ => "bool"
  | .int _ => "int"
  | .str _ => "str"
  | .list _ => "list"
  | .tuple _ => "tuple"
  | .dict _ => "dict"
section
variable {K : PySem.W.Frag} {σ : L2.St} {H : Hp} {te : TE} {d : PyData} {v : V}
theorem tyX_of (p : Dp K H v d) : TyX K H v (.type (tyName d)) := by
  cases p with
  | non => exact .base .non
  | bl b => exact .base (.bl b)
  | int i => exact .base (.int i)
  | str x => exact .base (.str x)
  | lst h _ =>
    rcases h with (h | ⟨o, h⟩) | ⟨o, its, n, h, hc, _⟩
    · exact .base (.lst h)
    · exact .base (.frz h)
    · exact .kList h hc
  | tup h _ =>
    rcases h with (h | ⟨o, h⟩) | ⟨o, its, n, h, hc, _⟩
    · exact .base (.tup h)
    · exact .fTuple h
    · exact .kTuple h hc
theorem ed_isi {c : String} {b : Bool} (h : ED K te σ H d) (hb : kitB (tyName d) c = some b) : ED K (tCB (rIsi K) (tCons te (tCons (tC (.ty c)) tNil))) σ H (.bool b) := fun H1 e Q q =>
  h H1 e _ fun v H2 e2 p => ⟨v, .ty c, .type (tyName d), .type c, b, rfl, .ty c, tyX_of p, kit_ty hb, q _ H2 e2 (.bl _)⟩
theorem kit_int_int : kitB "int" "int" = some true := by decide +kernel
theorem kit_int_bool : kitB "int" "bool" = some false := by decide +kernel
theorem kit_tup_tup : kitB "tuple" "tuple" = some true := by decide +kernel
theorem kit_non_tup : kitB "NoneType" "tuple" = some false := by decide +kernel
theorem kit_str_tup : kitB "str" "tuple" = some false := by decide +kernel
theorem kit_int_tup : kitB "int" "tuple" = some false := by decide +kernel
end
end BB
/-! K4: loops that search. -/
namespace BB
open PySem L2 Evl
section
variable {K : PySem.W.Frag} {σ : L2.St} {H H' : Hp} {te : TE} {t : TT} {wi : TI} {D : Ends}
theorem set_set {j : Nat} {a b : Option V} : (σ.set j a).set j b = σ.set j b := List.set_set ..
/-- for x in xs: if t: return te; then the rest -/
theorem s_find1 {α : Type} {xs : List α} {enc : α → PyData} {j : Nat} {p : α → Bool} {r : α → PyData} (hi : EI K wi σ H Ex (xs.map enc)) (hj : σ.set j none = σ)
    (ht : ∀ a x H1, a ∈ xs → Ex H H1 → Dp K H1 x (enc a) → EvT t (σ.set j (some x)) H1 (p a))
    (he : ∀ a x H1, a ∈ xs → p a = true → Ex H H1 → Dp K H1 x (enc a) → ED K te (σ.set j (some x)) H1 (r a))
    (hr : ∀ i a v H1, xs.findIdx? p = some i → xs[i]? = some a → Ex H H1 → Dp K H1 v (r a) → D.rt v H1)
    (hd : ∀ o H1, xs.findIdx? p = none → Ex H H1 → D.nx (σ.set j o) H1) : tFor wi (gName j) (tIfS t (tRet te) tNext) D σ H :=
  s_forD hi (fun H2 i σ' H' => Ex H H2 ∧ Ex H2 H' ∧ (∀ a ∈ xs.take i, p a = false) ∧ ∃ o, σ' = σ.set j o) (fun H2 e => ⟨e, Ex.refl _, by simp, none, hj.symm⟩) (fun H2 i σ' H' _ h => h.2.1)
    (fun H2 i d x σ' H' H'' e2 hd' h eH px => by
      obtain ⟨e, e1, hno, o, rfl⟩ := h
      obtain ⟨a, ha, rfl⟩ := map_get hd'
      show tIfS t (tRet te) tNext _ ((σ.set j o).set j (some x)) H''
      rw [set_set]
      have em : Ex H H'' := e.trans (e1.trans eH)
      have hm := List.mem_of_getElem? ha
      refine s_ifD (ht a x H'' hm em px) (fun hp H3 e3 => ?_) (fun hp H3 e3 => ?_)
      · refine s_retD (he a x H3 hm hp (em.trans e3) (px.ex e3)) fun v H4 e4 pv => hr i a v H4 ?_ ha (em.trans (e3.trans e4)) pv
        obtain ⟨hlt, hget⟩ := List.getElem?_eq_some_iff.mp ha
        refine List.findIdx?_eq_some_iff_getElem.mpr ⟨hlt, by rw [hget]; exact hp, fun m hm' => ?_⟩
        have : p (xs[m]'(by omega)) = false := hno _ (by
          rw [List.mem_take_iff_getElem]
          exact ⟨m, by omega, rfl⟩)
        simp [this]
      · refine ⟨e, e1.trans (eH.trans e3), fun b hb => ?_, some x, rfl⟩
        rw [take_succ_of ha] at hb
        rcases List.mem_append.mp hb with hb | hb
        · exact hno b hb
        · rw [List.mem_singleton.mp hb]; exact hp)
    (fun H2 σ' H' e2 h => by
      obtain ⟨e, e1, hno, o, rfl⟩ := h
      rw [List.length_map, List.take_length] at hno
      exact hd o H' (List.findIdx?_eq_none_iff.mpr hno) (e.trans e1))
/-- for i, x in enumerate(xs): if t: return te; then the rest -/
theorem s_findE {α : Type} {xs : List α} {enc : α → PyData} {j k : Nat} {p : Nat → α → Bool} {r : Nat → α → PyData} (hi : EI K wi σ H Ex (enD enc xs)) (hj : (σ.set j none).set k none = σ) (hjk : j ≠ k)
    (ht : ∀ (i : Nat) a x y H1, xs[i]? = some a → Ex H H1 → Dp K H1 x (.int (i : Int)) → Dp K H1 y (enc a) → EvT t ((σ.set j (some x)).set k (some y)) H1 (p i a))
    (he : ∀ (i : Nat) a x y H1, xs[i]? = some a → p i a = true → Ex H H1 → Dp K H1 x (.int (i : Int)) → Dp K H1 y (enc a) → ED K te ((σ.set j (some x)).set k (some y)) H1 (r i a))
    (hr : ∀ (i : Nat) a v H1, xs[i]? = some a → p i a = true → (∀ (m : Nat) b, m < i → xs[m]? = some b → p m b = false) → Ex H H1 → Dp K H1 v (r i a) → D.rt v H1)
    (hd : ∀ o o' H1, (∀ (m : Nat) b, xs[m]? = some b → p m b = false) → Ex H H1 → D.nx ((σ.set j o).set k o') H1) : tFor wi (gTup K 2 (gCons (gName j) (gCons (gName k) gNil))) (tIfS t (tRet te) tNext) D σ H :=
  s_forD hi (fun H2 i σ' H' => Ex H H2 ∧ Ex H2 H' ∧ (∀ (m : Nat) b, m < i → xs[m]? = some b → p m b = false) ∧ ∃ o o', σ' = (σ.set j o).set k o') (fun H2 e => ⟨e, Ex.refl _, fun m b hm => absurd hm (Nat.not_lt_zero _), none, none, hj.symm⟩) (fun H2 i σ' H' _ h => h.2.1)
    (fun H2 i d x σ' H' H'' e2 hd' h eH px => by
      obtain ⟨e, e1, hno, o, o', rfl⟩ := h
      obtain ⟨q, hq, rfl⟩ := map_get hd'
      rw [List.getElem?_zipIdx] at hq
      obtain ⟨a, ha, rfl⟩ : ∃ a, xs[i]? = some a ∧ q = (a, i) := by
        cases hx : xs[i]? with
        | none => rw [hx] at hq; cases hq
        | some a => rw [hx] at hq; exact ⟨a, rfl, by have := (Option.some.inj hq).symm; simpa using this⟩
      refine eg_pair px fun u y pu py => ?_
      have es : (((σ.set j o).set k o').set j (some u)).set k (some y) = (σ.set j (some u)).set k (some y) := by
        rw [List.set_comm _ _ (Ne.symm hjk), set_set, set_set]
      show tIfS t (tRet te) tNext _ ((((σ.set j o).set k o').set j (some u)).set k (some y)) H''
      rw [es]
      have em : Ex H H'' := e.trans (e1.trans eH)
      refine s_ifD (ht i a u y H'' ha em pu py) (fun hp H3 e3 => ?_) (fun hp H3 e3 => ?_)
      · exact s_retD (he i a u y H3 ha hp (em.trans e3) (pu.ex e3) (py.ex e3)) fun v H4 e4 pv => hr i a v H4 ha hp hno (em.trans (e3.trans e4)) pv
      · refine ⟨e, e1.trans (eH.trans e3), fun m b hm hb => ?_, some u, some y, rfl⟩
        by_cases hmi : m = i
        · subst hmi
          rw [ha] at hb; cases hb
          exact hp
        · exact hno m b (by omega) hb)
    (fun H2 σ' H' e2 h => by
      obtain ⟨e, e1, hno, o, o', rfl⟩ := h
      have hl : (enD enc xs).length = xs.length := by rw [List.length_map, List.length_zipIdx]
      rw [hl] at hno
      exact hd o o' H' (fun m b hb => hno m b (List.getElem?_eq_some_iff.mp hb).1 hb) (e.trans e1))
/-- .. something behind -/
theorem q_find1 {tz : TS} {α : Type} {xs : List α} {enc : α → PyData} {j : Nat} {p : α → Bool} {r : α → PyData} (hi : EI K wi σ H Ex (xs.map enc)) (hj : σ.set j none = σ)
    (ht : ∀ a x H1, a ∈ xs → Ex H H1 → Dp K H1 x (enc a) → EvT t (σ.set j (some x)) H1 (p a))
    (he : ∀ a x H1, a ∈ xs → p a = true → Ex H H1 → Dp K H1 x (enc a) → ED K te (σ.set j (some x)) H1 (r a))
    (hr : ∀ i a v H1, xs.findIdx? p = some i → xs[i]? = some a → Ex H H1 → Dp K H1 v (r a) → D.rt v H1)
    (hd : ∀ o H1, xs.findIdx? p = none → Ex H H1 → tz D (σ.set j o) H1) : tSeq (tFor wi (gName j) (tIfS t (tRet te) tNext)) tz D σ H :=
  s_find1 (D := { D with nx := tz D }) hi hj ht he hr hd
theorem q_findE {tz : TS} {α : Type} {xs : List α} {enc : α → PyData} {j k : Nat} {p : Nat → α → Bool} {r : Nat → α → PyData} (hi : EI K wi σ H Ex (enD enc xs)) (hj : (σ.set j none).set k none = σ) (hjk : j ≠ k)
    (ht : ∀ (i : Nat) a x y H1, xs[i]? = some a → Ex H H1 → Dp K H1 x (.int (i : Int)) → Dp K H1 y (enc a) → EvT t ((σ.set j (some x)).set k (some y)) H1 (p i a))
    (he : ∀ (i : Nat) a x y H1, xs[i]? = some a → p i a = true → Ex H H1 → Dp K H1 x (.int (i : Int)) → Dp K H1 y (enc a) → ED K te ((σ.set j (some x)).set k (some y)) H1 (r i a))
    (hr : ∀ (i : Nat) a v H1, xs[i]? = some a → p i a = true → (∀ (m : Nat) b, m < i → xs[m]? = some b → p m b = false) → Ex H H1 → Dp K H1 v (r i a) → D.rt v H1)
    (hd : ∀ o o' H1, (∀ (m : Nat) b, xs[m]? = some b → p m b = false) → Ex H H1 → tz D ((σ.set j o).set k o') H1) : tSeq (tFor wi (gTup K 2 (gCons (gName j) (gCons (gName k) gNil))) (tIfS t (tRet te) tNext)) tz D σ H :=
  s_findE (D := { D with nx := tz D }) hi hj hjk ht he hr hd
theorem q_forD {tu tz : TS} {g : TG} {GG : Hp → Hp → Prop} {ds : List PyData} (hi : EI K wi σ H GG ds) (Pv : Hp → Nat → L2.St → Hp → Prop) (h0 : ∀ H2, Ex H H2 → Pv H2 0 σ H2) (hG : ∀ H2 i σ' H', i ≤ ds.length → Pv H2 i σ' H' → GG H2 H')
    (hs : ∀ H2 i d x σ' H' H'', Ex H H2 → ds[i]? = some d → Pv H2 i σ' H' → Ex H' H'' → Dp K H'' x d → g x σ' H'' fun σ3 H3 => tu { D with nx := Pv H2 (i + 1), ct := Pv H2 (i + 1), bk := tz D } σ3 H3)
    (hd : ∀ H2 σ' H', Ex H H2 → Pv H2 ds.length σ' H' → tz D σ' H') : tSeq (tFor wi g tu) tz D σ H :=
  s_forD (D := { D with nx := tz D }) hi Pv h0 hG hs hd
end
end BB
/-! K5: the rules with the written part by its name. -/
namespace BB
open PySem L2 Evl
section
variable {X : Cx} {K : PySem.W.Frag}
theorem ixTK (h : X.K = K := by rfl) : IxR X (rIxT K) := h ▸ ix_tup
theorem ixLK (h : X.K = K := by rfl) : IxR X (rIxL K) := h ▸ ix_list
theorem ixSK (h : X.K = K := by rfl) : IxR X (rIx K) := h ▸ ix_seq
theorem inK (h : X.K = K := by rfl) : OpR X (compareOp .In) (rIn K false) := h ▸ op_in_seq
theorem niK (h : X.K = K := by rfl) : OpR X (compareOp .NotIn) (rIn K true) := h ▸ op_notIn_seq
theorem catK (h : X.K = K := by rfl) : OpR X (binaryOp .Add) (rCatA K) := h ▸ op_catA
theorem slTK (h : X.K = K := by rfl) : SlR X (rSlA K) := h ▸ sl_tupA
theorem slLK (h : X.K = K := by rfl) : SlR X (rSlL K) := h ▸ sl_list
abbrev rLen (K : PySem.W.Frag) : List V → Hp → VK → Prop := fun xs H Q => ∃ p ys, xs = [.ref p] ∧ (SqL K H p ys ∨ SqT K H p ys) ∧ Q (.int ys.length) H
abbrev rTupOf (K : PySem.W.Frag) : List V → Hp → VK → Prop := fun xs H Q => ∃ p ys, xs = [.ref p] ∧ ((SqL K H p ys ∧ ∀ l, H l = none → Q (.ref l) (upd H l (.tup ys))) ∨ (SqT K H p ys ∧ Q (.ref p) H))
abbrev rListOf (K : PySem.W.Frag) : List V → Hp → VK → Prop := fun xs H Q => ∃ p ys, xs = [.ref p] ∧ (SqL K H p ys ∨ SqT K H p ys) ∧ ∀ l, H l = none → Q (.ref l) (upd H l (.lst ys))
theorem lenK (h : X.K = K := by rfl) : CallR X (.builtin "len") (rLen K) := h ▸ call_len_seq
theorem tupK (h : X.K = K := by rfl) : CallR X (.type "tuple") (rTupOf K) := h ▸ call_tuple_of
theorem listK (h : X.K = K := by rfl) : CallR X (.type "list") (rListOf K) := h ▸ call_list_of
theorem tupNK (h : X.K = K := by rfl) : CallR X (.type "tuple") (rTupN K) := h ▸ call_tupleN
theorem allK (hc : X.calm = true) (h : X.K = K := by rfl) : CallR X (.builtin "all") (rAll K) := h ▸ cr_all hc
theorem anyK (hc : X.calm = true) (h : X.K = K := by rfl) : CallR X (.builtin "any") (rAny K) := h ▸ cr_any hc
theorem isiK (h : X.K = K := by rfl) : CallR X (.builtin "isinstance") (rIsi K) := h ▸ call_isi
theorem srtK (h : X.K = K := by rfl) : CallR X (.builtin "sorted") (rSortedI K) := h ▸ cr_sortedI
theorem eqDK {k : Nat} (hr : Room k X.A) (h : X.K = K := by rfl) : OpR X (compareOp .Eq) (rEqD K) := h ▸ op_eqD hr.units
theorem neDK {k : Nat} (hr : Room k X.A) (h : X.K = K := by rfl) : OpR X (compareOp .NotEq) (rNeD K) := h ▸ op_neD hr.units
theorem inDTK {k : Nat} (hr : Room k X.A) (h : X.K = K := by rfl) : OpR X (compareOp .In) (rInDT K) := h ▸ op_inDT hr.units65
theorem niDK {k : Nat} (hr : Room k X.A) (h : X.K = K := by rfl) : OpR X (compareOp .NotIn) (rNotInD K) := h ▸ op_notInD hr.units65
theorem eqEK {k : Nat} (hr : Room k X.A) (h : X.K = K := by rfl) : OpR X (compareOp .Eq) (rEqE K) := h ▸ op_eqE hr.units0
theorem neEK {k : Nat} (hr : Room k X.A) (h : X.K = K := by rfl) : OpR X (compareOp .NotEq) (rNeE K) := h ▸ op_neE hr.units0
theorem piTK {tg l : Expr} {tl : TE} (hl : PE X l tl) (h : X.K = K := by rfl) : PI X tg l (iTup K tl) := h ▸ pi_tup hl
theorem piLK {tg l : Expr} {tl : TE} (hl : PE X l tl) (h : X.K = K := by rfl) : PI X tg l (iList K tl) := h ▸ pi_list hl
theorem piEK {e : Expr} {ta : TA} {p pos tpos : Pos} {elts : List Expr} {kk : Nat} (hg : Gl X "enumerate") (hm : X.mg "enumerate" = none) (ha : PA X [e] ta) (hs : starEach [e] X.env = [(false, eval e X.env)] := by rfl) (h : X.K = K := by rfl) :
    PI X (.Tuple elts kk tpos) (.Call (.Name "enumerate" p) [e] [] pos) (iEnumT K ta) := h ▸ pi_enumT hg hm ha hs
theorem piZK {e e2 : Expr} {ta : TA} {p pos tpos : Pos} {elts : List Expr} {kk : Nat} (hg : Gl X "zip") (hm : X.mg "zip" = none) (ha : PA X [e, e2] ta)
    (hs : starEach [e, e2] X.env = (false, eval e X.env) :: starEach [e2] X.env := by rfl) (hpl : (backTo pos (starEach [e2] X.env)).any (·.1) = false := by rfl) (h : X.K = K := by rfl) :
    PI X (.Tuple elts kk tpos) (.Call (.Name "zip" p) [e, e2] [] pos) (RZ.iZipA K ta) := h ▸ RZ.pi_zipA hg hm ha hs hpl
theorem pgTK {es : List Expr} {k : Nat} {pos : Pos} {t : TGs} {n : Nat} (hc : X.calm = true) (hp : PGs X es t)
    (hn : (assignEach es X.env).length = n := by rfl) (hst : (assignEach es X.env).findIdx? (·.1) = none := by rfl) (h : X.K = K := by rfl) : PG X (.Tuple es k pos) (gTup K n t) := h ▸ pg_tup hc hp hn hst
theorem fldK {e : Expr} {f : Str} {pos : Pos} {ta : TE} (he : PE X e ta) (hb : attributeBase e f X.env (eval e X.env) = eval e X.env) (h : X.K = K := by rfl) : PE X (.Attribute e f pos) (tFld K ta f) := h ▸ pe_fld he hb
end
section
variable {K : PySem.W.Frag} {σ : L2.St} {H : Hp} {te ti : TE} {xs : List PyData} {i : Nat}
theorem cut_to (ys : List V) (i : Nat) : cutV ys none (some (i : Int)) = ys.take i := by
  unfold cutV
  rw [HT.sIx_none, HT.sIx_nat, List.drop_zero, Nat.sub_zero]
  by_cases h : i ≤ ys.length
  · rw [Nat.min_eq_left h]
  · rw [Nat.min_eq_right (by omega), List.take_of_length_le (Nat.le_refl _), List.take_of_length_le (by omega)]
theorem cut_from (ys : List V) (i : Nat) : cutV ys (some (i : Int)) none = ys.drop i := by
  unfold cutV
  rw [HT.sIx_none, HT.sIx_nat]
  by_cases h : i ≤ ys.length
  · rw [Nat.min_eq_left h, List.take_of_length_le (by rw [List.length_drop]; omega)]
  · rw [Nat.min_eq_right (by omega), List.drop_of_length_le (Nat.le_refl _), List.drop_of_length_le (by omega)]; simp
/-- t[:i] -/
theorem ed_slTo (h : ED K te σ H (.tuple xs)) (hi : ED K ti σ H (.int (i : Int))) : ED K (tSl (rSlA K) te tNoPart (tPart ti)) σ H (.tuple (xs.take i)) := fun H1 e Q q =>
  h H1 e _ fun v H2 e2 p => hi H2 (e.trans e2) _ fun u H3 e3 pu => by
    obtain ⟨a, ys, rfl, h1, h2⟩ := dp_tup p
    refine ⟨i, dp_int pu, a, ys, rfl, ex_t e3 h1, fun hw => ?_, fun hw z hz => ?_⟩
    · rw [HT.sIx_none, HT.sIx_nat] at hw
      have hx : xs.take i = xs := List.take_of_length_le (by rw [← h2.length]; omega)
      rw [hx] at q
      exact q _ H3 (e2.trans e3) (p.ex e3)
    · refine q _ _ ((e2.trans e3).trans (Ex.new hz)) (.tup (.inl (.inl upd_same)) ?_)
      rw [cut_to]
      exact ((h2.ex e3).take i).ex (Ex.new hz)
/-- t[i:] -/
theorem ed_slFrom (h : ED K te σ H (.tuple xs)) (hi : ED K ti σ H (.int (i : Int))) : ED K (tSl (rSlA K) te (tPart ti) tNoPart) σ H (.tuple (xs.drop i)) := fun H1 e Q q =>
  h H1 e _ fun v H2 e2 p => hi H2 (e.trans e2) _ fun u H3 e3 pu => by
    obtain ⟨a, ys, rfl, h1, h2⟩ := dp_tup p
    refine ⟨i, dp_int pu, a, ys, rfl, ex_t e3 h1, fun hw => ?_, fun hw z hz => ?_⟩
    · rw [HT.sIx_nat] at hw
      have hx : xs.drop i = xs := by
        by_cases hi0 : i = 0
        · rw [hi0, List.drop_zero]
        · have hl : ys.length = 0 := by omega
          have : xs = [] := List.eq_nil_of_length_eq_zero (by rw [← h2.length, hl])
          rw [this, List.drop_nil]
      rw [hx] at q
      exact q _ H3 (e2.trans e3) (p.ex e3)
    · refine q _ _ ((e2.trans e3).trans (Ex.new hz)) (.tup (.inl (.inl upd_same)) ?_)
      rw [cut_from]
      exact ((h2.ex e3).drop i).ex (Ex.new hz)
end
section
variable {K : PySem.W.Frag} {σ : L2.St} {H : Hp} {te : TE} {d : PyData} {D : Ends} {tz : TS}
theorem q_exprD (h : ED K te σ H d) (k : ∀ H1, Ex H H1 → tz D σ H1) : tSeq (tDrop te) tz D σ H := h H (Ex.refl _) _ fun v H1 e p => k H1 e
theorem s_exprD (h : ED K te σ H d) (k : ∀ H1, Ex H H1 → D.nx σ H1) : tDrop te D σ H := h H (Ex.refl _) _ fun v H1 e p => k H1 e
end
end BB
/-! D1: books. -/
namespace BB
open PySem L2 Evl
local macro_rules | `(tactic| walk_at "ed") => `(tactic| first | exact ed_int | exact ed_bl | exact ed_non | exact ed_str | exact ed_var rfl (by assumption) | exact eds_nil | apply eds_cons | apply ed_op | apply ed_neg | exact rd_add | exact rd_sub | exact rd_b | exact rd_eqI | exact rd_neI | exact rcd_lenT | exact rcd_lenL | exact rcd_all | exact rcd_any | exact rcd_tuple | apply ed_cb)
section
variable {P : Program} {w : World} {K : PySem.W.Frag} {mg : Str → Option Value} {base : Heap}
/-! ### is_whole_number, is_between, is_below -/
def P_is_whole_number : List PyData → PyData → Prop := fun ds d => ∃ i, ds = [.int i] ∧ d = .bool true
theorem sc_is_whole_number : FnScope ["thing"] ["thing"] (defScope st_is_whole_number) := ⟨rfl, rfl, rfl, by decide +kernel, rfl, by decide +kernel, by decide +kernel⟩
theorem ok_is_whole_number (T : Txt K mg) : FnOk P w K mg base CX0 1 T.d_is_whole_number.f T.d_is_whole_number.fd ["thing"] (PureSp K P_is_whole_number) := by
  refine T.d_is_whole_number.F.ok sc_is_whole_number ?len (fun cdv A outer s H vs Q E hr h => ?_)
  case len =>
    rintro vs H Q E ⟨ds, d, h, ⟨i, rfl, _⟩, _⟩
    exact h.length
  obtain ⟨ds, d, hA, ⟨i, rfl, rfl⟩, k⟩ := h
  obtain ⟨v, rfl, p⟩ := dpa1 hA
  refine ⟨_, (pss_one (ps_ret (pe_and (pe_callB (isiK (K := K)) (by rfl) T.b_isinstance (by decide +kernel) (pa_cons (pv 0) (pa_cons (pe_bltn (v := .ty "int") (by rfl) T.b_int (by decide +kernel) rfl) pa_nil))) (pe_one (pe_not (pe_callB (isiK (K := K)) (by rfl) T.b_isinstance (by decide +kernel) (pa_cons (pv 0) (pa_cons (pe_bltn (v := .ty "bool") (by rfl) T.b_bool (by decide +kernel) rfl) pa_nil)))))))), ?_⟩
  refine s_retD (ed_and (ed_isi (ed_var rfl p) kit_int_int) fun _ => ed_not (ed_isi (ed_var rfl p) kit_int_bool)) fun v H1 e p => k v H1 e p
def P_is_between : List PyData → PyData → Prop := fun ds d => ∃ i lo hi, ds = [.int i, .int lo, .int hi] ∧ d = .bool (decide (lo ≤ i) && decide (i ≤ hi))
theorem sc_is_between : FnScope ["thing", "least", "most"] ["thing", "least", "most"] (defScope st_is_between) := ⟨rfl, rfl, rfl, by decide +kernel, rfl, by decide +kernel, by decide +kernel⟩
theorem ok_is_between (T : Txt K mg) : FnOk P w K mg base CX0 2 T.d_is_between.f T.d_is_between.fd ["thing", "least", "most"] (PureSp K P_is_between) := by
  refine T.d_is_between.F.ok sc_is_between ?len (fun cdv A outer s H vs Q E hr h => ?_)
  case len =>
    rintro vs H Q E ⟨ds, d, h, ⟨i, lo, hi, rfl, _⟩, _⟩
    exact h.length
  obtain ⟨ds, d, hA, ⟨i, lo, hi, rfl, rfl⟩, k⟩ := h
  obtain ⟨v, u, w', rfl, p, q, r⟩ := dpa3 hA
  refine ⟨_, (pss_one (ps_ret (pe_and (pe_call (ok_is_whole_number T) (hr.mono (by decide)) (by rfl) T.d_is_whole_number.g T.d_is_whole_number.F.kp T.d_is_whole_number.b .nil pass0 (pa_cons (pv 0) pa_nil)) (pe_one (pe_chain op_le op_le (pv 1) (pv 0) (pv 2)))))), ?_⟩
  refine s_retD (ed_and (ed_call (by repeat' walk_at "ed") ⟨i, rfl, rfl⟩) fun _ => ed_chain (ed_var rfl q) (ed_var rfl p) (fun _ => ed_var rfl r) rd_b (fun _ => rd_b)) fun v H1 e p => k v H1 e p
def P_is_below : List PyData → PyData → Prop := fun ds d => ∃ i b, ds = [.int i, .int b] ∧ d = .bool (decide (0 ≤ i) && decide (i ≤ b - 1))
theorem sc_is_below : FnScope ["thing", "bound"] ["thing", "bound"] (defScope st_is_below) := ⟨rfl, rfl, rfl, by decide +kernel, rfl, by decide +kernel, by decide +kernel⟩
theorem ok_is_below (T : Txt K mg) : FnOk P w K mg base CX0 3 T.d_is_below.f T.d_is_below.fd ["thing", "bound"] (PureSp K P_is_below) := by
  refine T.d_is_below.F.ok sc_is_below ?len (fun cdv A outer s H vs Q E hr h => ?_)
  case len =>
    rintro vs H Q E ⟨ds, d, h, ⟨i, b, rfl, _⟩, _⟩
    exact h.length
  obtain ⟨ds, d, hA, ⟨i, b, rfl, rfl⟩, k⟩ := h
  obtain ⟨v, u, rfl, p, q⟩ := dpa2 hA
  refine ⟨_, (pss_one (ps_ret (pe_call (ok_is_between T) (hr.mono (by decide)) (by rfl) T.d_is_between.g T.d_is_between.F.kp T.d_is_between.b .nil pass0 (pa_cons (pv 0) (pa_cons pe_int (pa_cons (pe_op op_sub (pv 1) pe_int) pa_nil)))))), ?_⟩
  refine s_retD (ed_call (by repeat' walk_at "ed") ⟨i, 0, b - 1, rfl, rfl⟩) fun v H1 e p => k v H1 e p
/-! ### is_rising, is_scheme, has_size -/
/-- each above the one ahead of it -/
def adjB (ns : List Int) : Bool := (List.range (ns.length - 1)).all fun k => decide (ns.getD k 0 < ns.getD (k + 1) 0)
def risB (ns : List Int) (b : Int) : Bool := (ns.all fun i => decide (0 ≤ i) && decide (i ≤ b - 1)) && adjB ns
def P_is_rising : List PyData → PyData → Prop := fun ds d => ∃ ns b, ds = [schD ns, .int b] ∧ ns.length ≤ 1000 ∧ d = .bool (risB ns b)
theorem getD_of {α : Type} {l : List α} {k : Nat} {d : α} (h : k < l.length) : l[k]? = some (l.getD k d) := by
  rw [List.getD_eq_getElem?_getD, List.getElem?_eq_getElem h]; rfl
theorem sc_is_rising : FnScope ["thing", "bound", "one", "at"] ["thing", "bound"] (defScope st_is_rising) := ⟨rfl, rfl, rfl, by decide +kernel, rfl, by decide +kernel, by decide +kernel⟩
theorem ok_is_rising (T : Txt K mg) : FnOk P w K mg base CX0 4 T.d_is_rising.f T.d_is_rising.fd ["thing", "bound"] (PureSp K P_is_rising) := by
  refine T.d_is_rising.F.ok sc_is_rising ?len (fun cdv A outer s H vs Q E hr h => ?_)
  case len =>
    rintro vs H Q E ⟨ds, d, h, ⟨ns, b, rfl, _⟩, _⟩
    exact h.length
  obtain ⟨ds, d, hA, ⟨ns, b, rfl, hl, rfl⟩, k⟩ := h
  obtain ⟨v, u, rfl, p, q⟩ := dpa2 hA
  refine ⟨_, (pss_cons (ps_if (PW.pt (pw_or (pt_not (pt_val (pe_callB (isiK (K := K)) (by rfl) T.b_isinstance (by decide +kernel) (pa_cons (pv 0) (pa_cons (pe_bltn (v := .ty "tuple") (by rfl) T.b_tuple (by decide +kernel) rfl) pa_nil))))) (pw_or1 (pt_not (pt_val (pe_callB (allK (K := K) rfl) (by rfl) T.b_all (by decide +kernel) (pa_cons (pe_lc (own := [("one", 2)]) rfl sc_is_rising.nd (piTK (K := K) (pv 0)) (blkOk_by (own := [("one", 2)]) (N := ["thing", "bound", "one", "at"]) (sc := defScope st_is_rising) (by decide +kernel)) (fun _ _ _ _ _ => (pg_name (i := 2) sc_is_rising.nd rfl (by first | exact Or.inl rfl | exact Or.inr rfl))) (fun _ _ _ _ _ => pts_nil) (fun _ _ _ _ _ => (pe_call (ok_is_below T) (hr.mono (by decide)) (by rfl) T.d_is_below.g T.d_is_below.F.kp T.d_is_below.b .nil pass0 (pa_cons (pv 2) (pa_cons (pv 1) pa_nil))))) pa_nil)))))))
      (pss_one (ps_ret pe_bl))
      pss_nil)
      (pss_one (ps_ret (pe_callB (allK (K := K) rfl) (by rfl) T.b_all (by decide +kernel) (pa_cons (pe_lc (own := [("at", 3)]) rfl sc_is_rising.nd (pi_range2 (by rfl) T.b_range (pa_cons pe_int (pa_cons (pe_callB (lenK (K := K)) (by rfl) T.b_len (by decide +kernel) (pa_cons (pv 0) pa_nil)) pa_nil))) (blkOk_by (own := [("at", 3)]) (N := ["thing", "bound", "one", "at"]) (sc := defScope st_is_rising) (by decide +kernel)) (fun _ _ _ _ _ => (pg_name (i := 3) sc_is_rising.nd rfl (by first | exact Or.inl rfl | exact Or.inr rfl))) (fun _ _ _ _ _ => pts_nil) (fun _ _ _ _ _ => (pe_cmpR op_lt (pe_ix (ixTK (K := K)) (pv 0) (pe_op op_sub (pv 3) pe_int) (fun _ _ => rfl)) (pe_ix (ixTK (K := K)) (pv 0) (pv 3) (fun _ _ => rfl)) (nomark _)))) pa_nil))))), ?_⟩
  refine q_whenD (x := !true || !(ns.all fun i => decide (0 ≤ i) && decide (i ≤ b - 1))) (et_or (et_not (et_B (ed_isi (ed_var rfl p) kit_tup_tup))) fun _ => et_not (et_B (ed_all (ed_lcY (xs := ns) (enc := PyData.int) (w := fun i => .bool (decide (0 ≤ i) && decide (i ≤ b - 1))) (fun H1 e => ei_tup (ed_var rfl (p.ex e))) (by omega) (fun _ _ => rfl) (fun _ => rfl)
    (fun i x H1 _ e px => ed_call (eds_cons (ed_var rfl px) (eds_cons (ed_var rfl (q.ex e)) eds_nil)) ⟨i, b, rfl, rfl⟩))))) (fun hx H1 e => ?_) (fun hx H1 e => ?_)
  · refine s_retD (K := K) ed_bl fun v H2 e2 pv => k v H2 (e.trans e2) ?_
    have : risB ns b = false := by
      unfold risB
      simp only [Bool.not_true, Bool.false_or, Bool.not_eq_true'] at hx
      rw [hx, Bool.false_and]
    rw [this]
    exact pv
  · simp only [Bool.not_true, Bool.false_or, Bool.not_eq_false'] at hx
    have er : risB ns b = adjB ns := by
      unfold risB
      rw [hx, Bool.true_and]
    rw [er] at k
    have hlen : ((ns.map PyData.int).length : Int) = (ns.length : Int) := by rw [List.length_map]
    refine s_retD (ed_all (ed_lcY (xs := List.range (ns.length - 1)) (enc := fun (k : Nat) => PyData.int (1 + (k : Int))) (w := fun k => .bool (decide (ns.getD k 0 < ns.getD (k + 1) 0))) (fun H2 e2 => ?_) (by rw [List.length_range]; omega) (fun _ _ => rfl) (fun _ => rfl) (fun j x H2 hj e2 px => ?_))) fun v H2 e2 pv => k v H2 (e.trans e2) pv
    · have en : (((ns.map PyData.int).length : Int) - 1).toNat = ns.length - 1 := by rw [hlen]; omega
      rw [← en]
      exact ei_rng2 (i := 1) (j := ((ns.map PyData.int).length : Int)) (eds_cons ed_int (eds_cons (ed_cb (eds_cons (ed_var rfl ((p.ex e).ex e2)) eds_nil) rcd_lenT) eds_nil)) (by rw [hlen]; omega)
    · have hj' : j < ns.length - 1 := List.mem_range.mp hj
      have ej : (1 + (j : Int)) - 1 = ((j : Nat) : Int) := by omega
      have ej2 : (1 + (j : Int)) = ((j + 1 : Nat) : Int) := by omega
      have g1 : (ns.map PyData.int)[j]? = some (.int (ns.getD j 0)) := by rw [List.getElem?_map, getD_of (by omega)]; rfl
      have g2 : (ns.map PyData.int)[j + 1]? = some (.int (ns.getD (j + 1) 0)) := by rw [List.getElem?_map, getD_of (by omega)]; rfl
      refine ed_op (ed_op (ed_var rfl ((p.ex e).ex e2)) ((ed_op (ed_var rfl px) ed_int rd_sub).is (by rw [ej])) (rd_ixT g1)) (ed_op (ed_var rfl ((p.ex e).ex e2)) ((ed_var rfl px).is (by rw [ej2])) (rd_ixT g2)) rd_b
def schB (ns : List Int) : Bool := risB ns 24 && (decide (1 ≤ (ns.length : Int)) && decide ((ns.length : Int) ≤ 8))
def P_is_scheme : List PyData → PyData → Prop := fun ds d => ∃ ns, ds = [schD ns] ∧ ns.length ≤ 1000 ∧ d = .bool (schB ns)
theorem ed_cst {σ : L2.St} {H : Hp} {i : Int} : ED K (tC (.int i)) σ H (.int i) := ed_int
theorem ed_lenT {σ : L2.St} {H : Hp} {te : TE} {α : Type} {xs : List α} {enc : α → PyData} (h : ED K te σ H (.tuple (xs.map enc))) : ED K (tCB (fun xs H Q => ∃ p ys, xs = [.ref p] ∧ (SqL K H p ys ∨ SqT K H p ys) ∧ Q (.int ys.length) H) (tCons te tNil)) σ H (.int (xs.length : Int)) := by
  have := ed_cb (eds_cons h eds_nil) rcd_lenT
  rw [List.length_map] at this
  exact this
theorem ed_lenL {σ : L2.St} {H : Hp} {te : TE} {α : Type} {xs : List α} {enc : α → PyData} (h : ED K te σ H (.list (xs.map enc))) : ED K (tCB (fun xs H Q => ∃ p ys, xs = [.ref p] ∧ (SqL K H p ys ∨ SqT K H p ys) ∧ Q (.int ys.length) H) (tCons te tNil)) σ H (.int (xs.length : Int)) := by
  have := ed_cb (eds_cons h eds_nil) rcd_lenL
  rw [List.length_map] at this
  exact this
theorem sc_is_scheme : FnScope ["thing"] ["thing"] (defScope st_is_scheme) := ⟨rfl, rfl, rfl, by decide +kernel, rfl, by decide +kernel, by decide +kernel⟩
theorem ok_is_scheme (T : Txt K mg) : FnOk P w K mg base CX0 5 T.d_is_scheme.f T.d_is_scheme.fd ["thing"] (PureSp K P_is_scheme) := by
  refine T.d_is_scheme.F.ok sc_is_scheme ?len (fun cdv A outer s H vs Q E hr h => ?_)
  case len =>
    rintro vs H Q E ⟨ds, d, h, ⟨ns, rfl, _⟩, _⟩
    exact h.length
  obtain ⟨ds, d, hA, ⟨ns, rfl, hl, rfl⟩, k⟩ := h
  obtain ⟨v, rfl, p⟩ := dpa1 hA
  refine ⟨_, (pss_one (ps_ret (pe_and (pe_call (ok_is_rising T) (hr.mono (by decide)) (by rfl) T.d_is_rising.g T.d_is_rising.F.kp T.d_is_rising.b .nil pass0 (pa_cons (pv 0) (pa_cons (pe_glob (v := .int 24) (by rfl) T.c_MOST_COLUMNS ⟨_, rfl⟩) pa_nil))) (pe_one (pe_chain op_le op_le pe_int (pe_callB (lenK (K := K)) (by rfl) T.b_len (by decide +kernel) (pa_cons (pv 0) pa_nil)) (pe_glob (v := .int 8) (by rfl) T.c_MOST_IN_SCHEME ⟨_, rfl⟩)))))), ?_⟩
  exact s_retD (ed_and (ed_call (eds_cons (ed_var rfl p) (eds_cons ed_int eds_nil)) ⟨ns, 24, rfl, hl, rfl⟩) fun _ => ed_chain ed_int (ed_lenT (ed_var rfl p)) (fun _ => ed_int) rd_b (fun _ => rd_b)) fun v H1 e p => k v H1 e p
def P_has_size : List PyData → PyData → Prop := fun ds d => ∃ xs : List PyData, ds = [.tuple xs] ∧ d = .bool (decide (1 ≤ (xs.length : Int)) && decide ((xs.length : Int) ≤ 12))
theorem sc_has_size : FnScope ["thing"] ["thing"] (defScope st_has_size) := ⟨rfl, rfl, rfl, by decide +kernel, rfl, by decide +kernel, by decide +kernel⟩
theorem ok_has_size (T : Txt K mg) : FnOk P w K mg base CX0 1 T.d_has_size.f T.d_has_size.fd ["thing"] (PureSp K P_has_size) := by
  refine T.d_has_size.F.ok sc_has_size ?len (fun cdv A outer s H vs Q E hr h => ?_)
  case len =>
    rintro vs H Q E ⟨ds, d, h, ⟨ns, rfl, _⟩, _⟩
    exact h.length
  obtain ⟨ds, d, hA, ⟨ns, rfl, rfl⟩, k⟩ := h
  obtain ⟨v, rfl, p⟩ := dpa1 hA
  refine ⟨_, (pss_one (ps_ret (pe_and (pe_callB (isiK (K := K)) (by rfl) T.b_isinstance (by decide +kernel) (pa_cons (pv 0) (pa_cons (pe_bltn (v := .ty "tuple") (by rfl) T.b_tuple (by decide +kernel) rfl) pa_nil))) (pe_one (pe_chain op_le op_le pe_int (pe_callB (lenK (K := K)) (by rfl) T.b_len (by decide +kernel) (pa_cons (pv 0) pa_nil)) (pe_glob (v := .int 12) (by rfl) T.c_MOST_SOURCES ⟨_, rfl⟩)))))), ?_⟩
  exact s_retD (ed_and (ed_isi (ed_var rfl p) kit_tup_tup) fun _ => ed_chain ed_int (ed_cb (eds_cons (ed_var rfl p) eds_nil) rcd_lenT) (fun _ => ed_int) rd_b (fun _ => rd_b)) fun v H1 e p => k v H1 e p
/-! ### first_wrong, is_book -/
def smallB (B : List (List Int)) : Prop := B.length ≤ 1000 ∧ ∀ s ∈ B, s.length ≤ 1000
def P_first_wrong : List PyData → PyData → Prop := fun ds d => ∃ B, ds = [bookD B] ∧ smallB B ∧ ((d = .none ∧ ∀ s ∈ B, schB s = true) ∨ ∃ (i : Nat) (s : List Int), d = .int (i : Int) ∧ B[i]? = some s ∧ schB s = false ∧ ∀ (m : Nat) s', m < i → B[m]? = some s' → schB s' = true)
theorem sc_first_wrong : FnScope ["thing", "index", "scheme"] ["thing"] (defScope st_first_wrong) := ⟨rfl, rfl, rfl, by decide +kernel, rfl, by decide +kernel, by decide +kernel⟩
theorem ok_first_wrong (T : Txt K mg) : FnOk P w K mg base CX0 6 T.d_first_wrong.f T.d_first_wrong.fd ["thing"] (PureSp K P_first_wrong) := by
  refine T.d_first_wrong.F.ok sc_first_wrong ?len (fun cdv A outer s H vs Q E hr h => ?_)
  case len =>
    rintro vs H Q E ⟨ds, d, h, ⟨ns, rfl, _⟩, _⟩
    exact h.length
  obtain ⟨ds, d, hA, ⟨B, rfl, ⟨hl, hs⟩, hd⟩, k⟩ := h
  obtain ⟨v, rfl, p⟩ := dpa1 hA
  refine ⟨_, (pss_cons (ps_for PassesOwn.never rfl (piEK (K := K) (by rfl) T.b_enumerate (pa_cons (pv 0) pa_nil)) (pgTK (K := K) rfl (pgs_cons (pg_name (i := 1) sc_first_wrong.nd rfl (by first | exact Or.inl rfl | exact Or.inr rfl)) (pgs_cons (pg_name (i := 2) sc_first_wrong.nd rfl (by first | exact Or.inl rfl | exact Or.inr rfl)) pgs_nil)))
      (pss_one (ps_if (pt_not (pt_val (pe_call (ok_is_scheme T) (hr.mono (by decide)) (by rfl) T.d_is_scheme.g T.d_is_scheme.F.kp T.d_is_scheme.b .nil pass0 (pa_cons (pv 2) pa_nil))))
        (pss_one (ps_ret (pv 1)))
        pss_nil)))
      (pss_one (ps_ret pe_non))), ?_⟩
  refine q_findE (xs := B) (enc := schD) (p := fun _ s => !schB s) (r := fun i _ => .int (i : Int)) (ei_enum (eds_cons (ed_var rfl p) eds_nil)) rfl (by decide) (fun i a x y H1 ha e px py => et_not (et_B (ed_call (eds_cons (ed_var rfl py) eds_nil) ⟨a, rfl, hs a (List.mem_of_getElem? ha), rfl⟩)))
    (fun i a x y H1 ha hp e px py => ed_var rfl px) (fun i a v H1 ha hp hno e pv => k v H1 e ?_) (fun o o' H1 hno e => ?_)
  · rcases hd with ⟨rfl, hall⟩ | ⟨j, s, rfl, hj, hj1, hj2⟩
    · have := hall a (List.mem_of_getElem? ha)
      simp [this] at hp
    · have : i = j := by
        rcases Nat.lt_trichotomy i j with h | h | h
        · have := hj2 i a h ha
          simp [this] at hp
        · exact h
        · have := hno j s h hj
          simp [hj1] at this
      subst this
      exact pv
  · refine s_retD (K := K) ed_non fun v H2 e2 pv => ?_
    refine k v H2 (e.trans e2) ?_
    rcases hd with ⟨rfl, hall⟩ | ⟨j, s, rfl, hj, hj1, hj2⟩
    · exact pv
    · have := hno j s hj
      simp [hj1] at this
def bookB (B : List (List Int)) : Prop := 1 ≤ B.length ∧ B.length ≤ 12 ∧ ∀ s ∈ B, schB s = true
theorem schB_len {s : List Int} (h : schB s = true) : s.length ≤ 8 := by
  unfold schB at h
  simp only [Bool.and_eq_true, decide_eq_true_eq] at h
  omega
theorem bookB.small {B : List (List Int)} (h : bookB B) : smallB B := ⟨by have := h.2.1; omega, fun s hs => by have := schB_len (h.2.2 s hs); omega⟩
def P_is_book : List PyData → PyData → Prop := fun ds d => ∃ B, ds = [bookD B] ∧ bookB B ∧ d = .bool true
theorem sc_is_book : FnScope ["thing"] ["thing"] (defScope st_is_book) := ⟨rfl, rfl, rfl, by decide +kernel, rfl, by decide +kernel, by decide +kernel⟩
theorem ok_is_book (T : Txt K mg) : FnOk P w K mg base CX0 7 T.d_is_book.f T.d_is_book.fd ["thing"] (PureSp K P_is_book) := by
  refine T.d_is_book.F.ok sc_is_book ?len (fun cdv A outer s H vs Q E hr h => ?_)
  case len =>
    rintro vs H Q E ⟨ds, d, h, ⟨ns, rfl, _⟩, _⟩
    exact h.length
  obtain ⟨ds, d, hA, ⟨B, rfl, hB, rfl⟩, k⟩ := h
  obtain ⟨v, rfl, p⟩ := dpa1 hA
  obtain ⟨h1, h2, h3⟩ := id hB
  refine ⟨_, (pss_one (ps_ret (pe_and (pe_call (ok_has_size T) (hr.mono (by decide)) (by rfl) T.d_has_size.g T.d_has_size.F.kp T.d_has_size.b .nil pass0 (pa_cons (pv 0) pa_nil)) (pe_one (pe_cmpR op_isN (pe_call (ok_first_wrong T) (hr.mono (by decide)) (by rfl) T.d_first_wrong.g T.d_first_wrong.F.kp T.d_first_wrong.b .nil pass0 (pa_cons (pv 0) pa_nil)) pe_non (nomark _)))))), ?_⟩
  refine s_retD (d := .bool true) ((ed_and (ed_call (eds_cons (ed_var rfl p) eds_nil) ⟨_, rfl, rfl⟩) fun _ => ed_op (ed_call (eds_cons (ed_var rfl p) eds_nil) ⟨B, rfl, hB.small, .inl ⟨rfl, h3⟩⟩) ed_non rd_isN).is ?_) fun v H1 e p => k v H1 e p
  have e1 : ((B.map schD).length : Int) = (B.length : Int) := by rw [List.length_map]
  rw [e1, decide_eq_true (show (1 : Int) ≤ (B.length : Int) by omega), decide_eq_true (show (B.length : Int) ≤ 12 by omega)]
  rfl
/-- made_book of a book -/
theorem sc_made_book : FnScope ["thing", "index"] ["thing"] (defScope st_made_book) := ⟨rfl, rfl, rfl, by decide +kernel, rfl, by decide +kernel, by decide +kernel⟩
theorem ok_made_book (T : Txt K mg) : FnOk P w K mg base CX0 7 T.d_made_book.f T.d_made_book.fd ["thing"] (PureSp K fun ds d => ∃ B, ds = [bookD B] ∧ bookB B ∧ d = bookD B) := by
  refine T.d_made_book.F.ok sc_made_book ?len (fun cdv A outer s H vs Q E hr h => ?_)
  case len =>
    rintro vs H Q E ⟨ds, d, h, ⟨ns, rfl, _⟩, _⟩
    exact h.length
  obtain ⟨ds, d, hA, ⟨B, rfl, hB, rfl⟩, k⟩ := h
  obtain ⟨v, rfl, p⟩ := dpa1 hA
  obtain ⟨h1, h2, h3⟩ := id hB
  refine ⟨_, (pss_cons (ps_if (pt_not (pt_val (pe_call (ok_has_size T) (hr.mono (by decide)) (by rfl) T.d_has_size.g T.d_has_size.F.kp T.d_has_size.b .nil pass0 (pa_cons (pv 0) pa_nil))))
      (pss_one ps_never)
      pss_nil)
      (pss_cons (ps_set (i := 1) sc_made_book.nd rfl (by first | exact Or.inl rfl | exact Or.inr rfl) (pe_call (ok_first_wrong T) (hr.mono (by decide)) (by rfl) T.d_first_wrong.g T.d_first_wrong.F.kp T.d_first_wrong.b .nil pass0 (pa_cons (pv 0) pa_nil)))
      (pss_cons (ps_if (pt_cmpR op_notN (pv 1) pe_non (nomark _))
      (pss_one ps_never)
      pss_nil)
      (pss_one (ps_ret (pv 0)))))), ?_⟩
  have e1 : ((B.map schD).length : Int) = (B.length : Int) := by rw [List.length_map]
  refine q_whenD (x := false) (ET.is (et_not (et_B (ed_call (eds_cons (ed_var rfl p) eds_nil) ⟨_, rfl, rfl⟩))) (by rw [e1, decide_eq_true (show (1 : Int) ≤ (B.length : Int) by omega), decide_eq_true (show (B.length : Int) ≤ 12 by omega)]; rfl)) (fun h => nomatch h) (fun _ H1 e => ?_)
  refine q_asgD (ed_call (eds_cons (ed_var rfl (p.ex e)) eds_nil) ⟨B, rfl, hB.small, .inl ⟨rfl, h3⟩⟩) fun u H2 e2 pu => ?_
  refine q_whenD (x := false) (et_test (ed_op (ed_var rfl pu) ed_non rd_notN)) (fun h => nomatch h) (fun _ H3 e3 => ?_)
  exact s_retD (ed_var rfl (((p.ex e).ex e2).ex e3)) fun v H4 e4 pv => k v H4 (((e.trans e2).trans e3).trans e4) pv
/-! ### shared_of, are_neighbours -/
def commonI (B : List (List Int)) (i j : Nat) : List Int := (B.getD i []).filter fun c => decide (c ∈ B.getD j [])
theorem rows_get {B : List (List Int)} {i : Nat} (h : i < B.length) : (B.map schD)[i]? = some (schD (B.getD i [])) := by
  rw [List.getElem?_map, getD_of h]; rfl
def P_shared_of : List PyData → PyData → Prop := fun ds d => ∃ (B : List (List Int)) (i j : Nat), ds = [bookD B, .int (i : Int), .int (j : Int)] ∧ bookB B ∧ i < B.length ∧ j < B.length ∧ d = schD (commonI B i j)
theorem getD_mem {B : List (List Int)} {i : Nat} (h : i < B.length) : B.getD i [] ∈ B := List.mem_of_getElem? (getD_of h)
theorem sc_shared_of : FnScope ["book", "i", "j", "column"] ["book", "i", "j"] (defScope st_shared_of) := ⟨rfl, rfl, rfl, by decide +kernel, rfl, by decide +kernel, by decide +kernel⟩
theorem ok_shared_of (T : Txt K mg) : FnOk P w K mg base CX0 1 T.d_shared_of.f T.d_shared_of.fd ["book", "i", "j"] (PureSp K P_shared_of) := by
  refine T.d_shared_of.F.ok sc_shared_of ?len (fun cdv A outer s H vs Q E hr h => ?_)
  case len =>
    rintro vs H Q E ⟨ds, d, h, ⟨B, i, j, rfl, _⟩, _⟩
    exact h.length
  obtain ⟨ds, d, hA, ⟨B, i, j, rfl, hB, hi, hj, rfl⟩, k⟩ := h
  obtain ⟨v, u, w', rfl, p, q, r⟩ := dpa3 hA
  refine ⟨_, (pss_one (ps_ret (pe_callTy (tupK (K := K)) (by rfl) T.b_tuple (by decide +kernel) (pa_cons (pe_lc (own := [("column", 3)]) rfl sc_shared_of.nd (piTK (K := K) (pe_ix (ixTK (K := K)) (pv 0) (pv 1) (fun _ _ => rfl))) (blkOk_by (own := [("column", 3)]) (N := ["book", "i", "j", "column"]) (sc := defScope st_shared_of) (by decide +kernel)) (fun _ _ _ _ _ => (pg_name (i := 3) sc_shared_of.nd rfl (by first | exact Or.inl rfl | exact Or.inr rfl))) (fun _ _ _ _ _ => pts_one (pt_cmpR (inK (K := K)) (pv 3) (pe_ix (ixTK (K := K)) (pv 0) (pv 2) (fun _ _ => rfl)) (by rfl))) (fun _ _ _ _ _ => (pv 3))) pa_nil)))), ?_⟩
  refine s_retD (ed_cb (eds_cons (ed_lc (xs := B.getD i []) (enc := PyData.int) (f := fun c => decide (c ∈ B.getD j [])) (w := PyData.int) (fun H1 e => ei_tup (ed_op (ed_var rfl (p.ex e)) (ed_var rfl (q.ex e)) (rd_ixT (rows_get hi)))) (by have := schB_len (hB.2.2 _ (getD_mem hi)); omega) (fun _ _ _ => rfl) (fun _ => rfl)
    (fun c x H1 _ e px => et_test (ed_op (ed_var rfl px) (ed_op (ed_var rfl (p.ex e)) (ed_var rfl (r.ex e)) (rd_ixT (rows_get hj))) rd_inT)) (fun c x H1 _ e px _ => ed_var rfl px)) eds_nil) rcd_tuple) fun v H1 e p => k v H1 e p
def nearB (B : List (List Int)) (i j : Nat) : Bool := !decide (i = j) && !(commonI B i j).isEmpty
def P_are_neighbours : List PyData → PyData → Prop := fun ds d => ∃ (B : List (List Int)) (i j : Nat), ds = [bookD B, .int (i : Int), .int (j : Int)] ∧ bookB B ∧ i < B.length ∧ j < B.length ∧ d = .bool (nearB B i j)
theorem sc_are_neighbours : FnScope ["book", "i", "j"] ["book", "i", "j"] (defScope st_are_neighbours) := ⟨rfl, rfl, rfl, by decide +kernel, rfl, by decide +kernel, by decide +kernel⟩
theorem ok_are_neighbours (T : Txt K mg) : FnOk P w K mg base CX0 2 T.d_are_neighbours.f T.d_are_neighbours.fd ["book", "i", "j"] (PureSp K P_are_neighbours) := by
  refine T.d_are_neighbours.F.ok sc_are_neighbours ?len (fun cdv A outer s H vs Q E hr h => ?_)
  case len =>
    rintro vs H Q E ⟨ds, d, h, ⟨B, i, j, rfl, _⟩, _⟩
    exact h.length
  obtain ⟨ds, d, hA, ⟨B, i, j, rfl, hB, hi, hj, rfl⟩, k⟩ := h
  obtain ⟨v, u, w', rfl, p, q, r⟩ := dpa3 hA
  refine ⟨_, (pss_one (ps_ret (pe_and (pe_cmpR op_ne (pv 1) (pv 2) (nomark _)) (pe_one (pe_cmpR (neDK (K := K) hr) (pe_call (ok_shared_of T) (hr.mono (by decide)) (by rfl) T.d_shared_of.g T.d_shared_of.F.kp T.d_shared_of.b .nil pass0 (pa_cons (pv 0) (pa_cons (pv 1) (pa_cons (pv 2) pa_nil)))) (pe_tup pa_nil) (nomark _)))))), ?_⟩
  refine s_retD ((ed_and (ed_op (ed_var rfl q) (ed_var rfl r) rd_neI) fun _ => ed_op (ed_call (by repeat' walk_at "ed") ⟨B, i, j, rfl, hB, hi, hj, rfl⟩) (ed_tup (ds := []) eds_nil (by decide)) (rd_neD (shaped_ints _) shaped_nil)).is ?_) fun v H1 e p => k v H1 e p
  have e1 : decide (((i : Nat) : Int) = ((j : Nat) : Int)) = decide (i = j) := by
    by_cases h : i = j
    · subst h; simp
    · rw [decide_eq_false h, decide_eq_false (by omega)]
  have e2 : PyData.eqv (schD (commonI B i j)) (.tuple []) = (commonI B i j).isEmpty := by
    show PyData.eqvAll ((commonI B i j).map PyData.int) [] = _
    cases commonI B i j <;> rfl
  rw [e1, e2]
  rfl
end
end BB
/-! D2: data, tags. -/
namespace BB
open PySem L2 Evl
section
variable {P : Program} {w : World} {K : PySem.W.Frag} {mg : Str → Option Value} {base : Heap}
def worthB (i : Int) : Bool := decide (0 ≤ i) && decide (i ≤ 999999 + 1 - 1)
def P_is_worth : List PyData → PyData → Prop := fun ds d => ∃ i, ds = [.int i] ∧ d = .bool (worthB i)
theorem sc_is_worth : FnScope ["thing"] ["thing"] (defScope st_is_worth) := ⟨rfl, rfl, rfl, by decide +kernel, rfl, by decide +kernel, by decide +kernel⟩
theorem ok_is_worth (T : Txt K mg) : FnOk P w K mg base CX0 4 T.d_is_worth.f T.d_is_worth.fd ["thing"] (PureSp K P_is_worth) := by
  refine T.d_is_worth.F.ok sc_is_worth ?len (fun cdv A outer s H vs Q E hr h => ?_)
  case len =>
    rintro vs H Q E ⟨ds, d, h, ⟨i, rfl, _⟩, _⟩
    exact h.length
  obtain ⟨ds, d, hA, ⟨i, rfl, rfl⟩, k⟩ := h
  obtain ⟨v, rfl, p⟩ := dpa1 hA
  refine ⟨_, (pss_one (ps_ret (pe_call (ok_is_below T) (hr.mono (by decide)) (by rfl) T.d_is_below.g T.d_is_below.F.kp T.d_is_below.b .nil pass0 (pa_cons (pv 0) (pa_cons (pe_op op_add (pe_glob (v := .int 999999) (by rfl) T.c_MOST_WORTH ⟨_, rfl⟩) pe_int) pa_nil))))), ?_⟩
  exact s_retD (ed_call (eds_cons (ed_var rfl p) (eds_cons (ed_op ed_int ed_int rd_add) eds_nil)) ⟨i, _, rfl, rfl⟩) fun v H1 e p => k v H1 e p
/-- what may stand where a row is due -/
def RT (d : PyData) : Prop := (∃ r : List Int, d = schD r ∧ r.length ≤ 1000) ∨ d = .none ∨ ∃ x, d = .str x ∧ PyData.canLay0 (.str x) = true
def rowB (s r : List Int) : Bool := decide (r.length = s.length) && r.all worthB
/-- whether data are a row of the scheme s -/
def isRow (s : List Int) (d : PyData) : Prop := ∃ r, d = schD r ∧ rowB s r = true
def P_is_row : List PyData → PyData → Prop := fun ds res => ∃ (B : List (List Int)) (i : Nat) (d : PyData), ds = [bookD B, .int (i : Int), d] ∧ bookB B ∧ i < B.length ∧ RT d ∧ ((isRow (B.getD i []) d ∧ res = .bool true) ∨ (¬ isRow (B.getD i []) d ∧ res = .bool false))
theorem schD_inj {r r' : List Int} (h : schD r = schD r') : r = r' := by
  have h1 : r.map PyData.int = r'.map PyData.int := by injection h
  exact List.map_inj_right (f := PyData.int) (fun a b e => by injection e) |>.mp h1
theorem sc_is_row : FnScope ["book", "source", "thing", "worth"] ["book", "source", "thing"] (defScope st_is_row) := ⟨rfl, rfl, rfl, by decide +kernel, rfl, by decide +kernel, by decide +kernel⟩
theorem ok_is_row (T : Txt K mg) : FnOk P w K mg base CX0 5 T.d_is_row.f T.d_is_row.fd ["book", "source", "thing"] (PureSp K P_is_row) := by
  refine T.d_is_row.F.ok sc_is_row ?len (fun cdv A outer s H vs Q E hr h => ?_)
  case len =>
    rintro vs H Q E ⟨ds, d, h, ⟨B, i, y, rfl, _⟩, _⟩
    exact h.length
  obtain ⟨ds, res, hA, ⟨B, i, d, rfl, hB, hi, hR, hres⟩, k⟩ := h
  obtain ⟨v, u, w', rfl, p, q, r⟩ := dpa3 hA
  refine ⟨_, (pss_one (ps_ret (pe_and (pe_callB (isiK (K := K)) (by rfl) T.b_isinstance (by decide +kernel) (pa_cons (pv 2) (pa_cons (pe_bltn (v := .ty "tuple") (by rfl) T.b_tuple (by decide +kernel) rfl) pa_nil))) (pe_and (pe_cmpR op_eq (pe_callB (lenK (K := K)) (by rfl) T.b_len (by decide +kernel) (pa_cons (pv 2) pa_nil)) (pe_callB (lenK (K := K)) (by rfl) T.b_len (by decide +kernel) (pa_cons (pe_ix (ixTK (K := K)) (pv 0) (pv 1) (fun _ _ => rfl)) pa_nil)) (nomark _)) (pe_one (pe_callB (allK (K := K) rfl) (by rfl) T.b_all (by decide +kernel) (pa_cons (pe_lc (own := [("worth", 3)]) rfl sc_is_row.nd (piTK (K := K) (pv 2)) (blkOk_by (own := [("worth", 3)]) (N := ["book", "source", "thing", "worth"]) (sc := defScope st_is_row) (by decide +kernel)) (fun _ _ _ _ _ => (pg_name (i := 3) sc_is_row.nd rfl (by first | exact Or.inl rfl | exact Or.inr rfl))) (fun _ _ _ _ _ => pts_nil) (fun _ _ _ _ _ => (pe_call (ok_is_worth T) (hr.mono (by decide)) (by rfl) T.d_is_worth.g T.d_is_worth.F.kp T.d_is_worth.b .nil pass0 (pa_cons (pv 3) pa_nil)))) pa_nil))))))), ?_⟩
  rcases hR with ⟨row, rfl, hl⟩ | rfl | ⟨x, rfl, _⟩
  · have e1 : ((row.map PyData.int).length : Int) = (row.length : Int) := by rw [List.length_map]
    have e2 : (((B.getD i []).map PyData.int).length : Int) = ((B.getD i []).length : Int) := by rw [List.length_map]
    have hres' : res = .bool (rowB (B.getD i []) row) := by
      rcases hres with ⟨⟨r2, hr, hb⟩, rfl⟩ | ⟨hn, rfl⟩
      · rw [schD_inj hr, hb]
      · cases hb : rowB (B.getD i []) row with
        | true => exact absurd ⟨row, rfl, hb⟩ hn
        | false => rfl
    subst hres'
    refine s_retD ((ed_and (ed_isi (ed_var rfl r) kit_tup_tup) fun _ => ed_and (ed_op (ed_lenT (ed_var rfl r)) (ed_lenT (ed_op (ed_var rfl p) (ed_var rfl q) (rd_ixT (rows_get hi)))) rd_eqI) fun _ => ed_all (ed_lcY (xs := row) (enc := PyData.int) (w := fun i => .bool (worthB i)) (fun H1 e => ei_tup (ed_var rfl (r.ex e))) (by omega) (fun _ _ => rfl) (fun _ => rfl) (fun c x H1 _ e px => ed_call (eds_cons (ed_var rfl px) eds_nil) ⟨c, rfl, rfl⟩))).is ?_) fun v H1 e p => k v H1 e p
    unfold rowB
    have e3 : decide ((row.length : Int) = ((B.getD i []).length : Int)) = decide (row.length = (B.getD i []).length) := by
      by_cases h : row.length = (B.getD i []).length
      · rw [decide_eq_true h, decide_eq_true (by omega)]
      · rw [decide_eq_false h, decide_eq_false (by omega)]
    rw [e3, Bool.true_and]
  · have hres' : res = .bool false := by
      rcases hres with ⟨⟨r2, hr, hb⟩, rfl⟩ | ⟨hn, rfl⟩
      · cases hr
      · rfl
    subst hres'
    exact s_retD ((ed_and (y := false) (ed_isi (ed_var rfl r) kit_non_tup) fun h => nomatch h).is rfl) fun v H1 e p => k v H1 e p
  · have hres' : res = .bool false := by
      rcases hres with ⟨⟨r2, hr, hb⟩, rfl⟩ | ⟨hn, rfl⟩
      · cases hr
      · rfl
    subst hres'
    exact s_retD ((ed_and (y := false) (ed_isi (ed_var rfl r) kit_str_tup) fun h => nomatch h).is rfl) fun v H1 e p => k v H1 e p
/-- what may stand where rows are due -/
def RsT (y : PyData) : Prop := y = .none ∨ ∃ xs, y = .tuple xs ∧ xs.length ≤ 40 ∧ ∀ d ∈ xs, RT d
def GoodRows (s : List Int) (y : PyData) : Prop := ∃ xs : List PyData, y = .tuple xs ∧ ∀ (m : Nat) d, xs[m]? = some d → isRow s d ∧ d ∉ xs.take m
def BadAt (s : List Int) (y : PyData) (k : Int) : Prop := (y = .none ∧ k = -1) ∨ ∃ (xs : List PyData) (m : Nat) (d : PyData), y = .tuple xs ∧ k = (m : Int) ∧ xs[m]? = some d ∧ (¬ isRow s d ∨ d ∈ xs.take m) ∧ ∀ (m' : Nat) d', m' < m → xs[m']? = some d' → isRow s d' ∧ d' ∉ xs.take m'
def P_wrong_row : List PyData → PyData → Prop := fun ds res => ∃ (B : List (List Int)) (i : Nat) (y : PyData), ds = [bookD B, .int (i : Int), y] ∧ bookB B ∧ i < B.length ∧ RsT y ∧ ((GoodRows (B.getD i []) y ∧ res = .none) ∨ ∃ k, BadAt (B.getD i []) y k ∧ res = .int k)
theorem RT.tupled {d : PyData} (h : RT d) : tupled d = true := by
  rcases h with ⟨r, rfl, _⟩ | rfl | ⟨x, rfl, h⟩
  · exact tupled_sch r
  · rfl
  · exact h
theorem RT.depth {d : PyData} (h : RT d) : d.depth ≤ 1 := by
  rcases h with ⟨r, rfl, _⟩ | rfl | ⟨x, rfl, h⟩
  · exact depth_ints r
  · simp [PyData.depth]
  · simp [PyData.depth]
open Classical in
noncomputable def decR (s : List Int) (d : PyData) : Bool := decide (isRow s d)
open Classical in
theorem decR_yes {s : List Int} {d : PyData} (h : isRow s d) : decR s d = true := decide_eq_true h
open Classical in
theorem decR_no {s : List Int} {d : PyData} (h : ¬ isRow s d) : decR s d = false := decide_eq_false h
open Classical in
noncomputable def badB (s : List Int) (xs : List PyData) (i : Nat) (d : PyData) : Bool := !decR s d || decide (d ∈ xs.take i)
open Classical in
theorem badB_no {s : List Int} {xs : List PyData} {i : Nat} {d : PyData} (h1 : isRow s d) (h2 : d ∉ xs.take i) : badB s xs i d = false := by
  unfold badB
  rw [decR_yes h1, decide_eq_false h2]
  rfl
open Classical in
theorem badB_yes {s : List Int} {xs : List PyData} {i : Nat} {d : PyData} (h : ¬ isRow s d ∨ d ∈ xs.take i) : badB s xs i d = true := by
  unfold badB
  rcases h with h | h
  · rw [decR_no h]; rfl
  · rw [decide_eq_true h, Bool.or_true]
open Classical in
theorem badB_false {s : List Int} {xs : List PyData} {i : Nat} {d : PyData} (h : badB s xs i d = false) : isRow s d ∧ d ∉ xs.take i := by
  refine ⟨Classical.byContradiction fun n => ?_, fun n => ?_⟩
  · rw [badB_yes (.inl n)] at h; cases h
  · rw [badB_yes (.inr n)] at h; cases h
open Classical in
theorem badB_true {s : List Int} {xs : List PyData} {i : Nat} {d : PyData} (h : badB s xs i d = true) : ¬ isRow s d ∨ d ∈ xs.take i := Classical.byContradiction fun n => by
  have h1 : isRow s d := Classical.byContradiction fun q => n (.inl q)
  rw [badB_no h1 fun q => n (.inr q)] at h
  cases h
theorem bad_inj {s : List Int} {y : PyData} {k k' : Int} (h : BadAt s y k) (h' : BadAt s y k') : k = k' := by
  rcases h with ⟨rfl, rfl⟩ | ⟨xs, m, d, rfl, rfl, hd, hb, hf⟩
  · rcases h' with ⟨_, rfl⟩ | ⟨xs, m, d, h, _⟩
    · rfl
    · cases h
  · rcases h' with ⟨h, rfl⟩ | ⟨xs', m', d', h, rfl, hd', hb', hf'⟩
    · cases h
    · cases h
      rcases Nat.lt_trichotomy m m' with q | q | q
      · obtain ⟨g1, g2⟩ := hf' m d q hd
        rcases hb with hb | hb
        · exact absurd g1 hb
        · exact absurd hb g2
      · rw [q]
      · obtain ⟨g1, g2⟩ := hf m' d' q hd'
        rcases hb' with hb | hb
        · exact absurd g1 hb
        · exact absurd hb g2
theorem enD_at {α : Type} {enc : α → PyData} {xs : List α} {i : Nat} {d : PyData} (h : (enD enc xs)[i]? = some d) : ∃ a, xs[i]? = some a ∧ d = .tuple [.int (i : Int), enc a] := by
  obtain ⟨q, hq, rfl⟩ := map_get h
  rw [List.getElem?_zipIdx] at hq
  cases hx : xs[i]? with
  | none => rw [hx] at hq; cases hq
  | some a =>
    rw [hx] at hq
    have e : q = (a, i) := by have := (Option.some.inj hq).symm; simpa using this
    exact ⟨a, rfl, by rw [e]⟩
theorem sc_wrong_row : FnScope ["book", "source", "rows", "index", "row"] ["book", "source", "rows"] (defScope st_wrong_row) := ⟨rfl, rfl, rfl, by decide +kernel, rfl, by decide +kernel, by decide +kernel⟩
theorem ok_wrong_row (T : Txt K mg) : FnOk P w K mg base CX0 6 T.d_wrong_row.f T.d_wrong_row.fd ["book", "source", "rows"] (PureSp K P_wrong_row) := by
  refine T.d_wrong_row.F.ok sc_wrong_row ?len (fun cdv A outer s H vs Q E hr h => ?_)
  case len =>
    rintro vs H Q E ⟨ds, d, h, ⟨B, i, y, rfl, _⟩, _⟩
    exact h.length
  obtain ⟨ds, res, hA, ⟨B, i, y, rfl, hB, hi, hR, hres⟩, k⟩ := h
  obtain ⟨v, u, w', rfl, p, q, r⟩ := dpa3 hA
  refine ⟨_, (pss_cons (ps_if (PW.pt (pw_or (pt_not (pt_val (pe_callB (isiK (K := K)) (by rfl) T.b_isinstance (by decide +kernel) (pa_cons (pv 2) (pa_cons (pe_bltn (v := .ty "tuple") (by rfl) T.b_tuple (by decide +kernel) rfl) pa_nil))))) (pw_or1 (pt_cmpR op_gt (pe_callB (lenK (K := K)) (by rfl) T.b_len (by decide +kernel) (pa_cons (pv 2) pa_nil)) (pe_glob (v := .int 40) (by rfl) T.c_MOST_ROWS ⟨_, rfl⟩) (nomark _)))))
      (pss_one (ps_ret (pe_un un_neg pe_int)))
      pss_nil)
      (pss_cons (ps_for PassesOwn.never rfl (piEK (K := K) (by rfl) T.b_enumerate (pa_cons (pv 2) pa_nil)) (pgTK (K := K) rfl (pgs_cons (pg_name (i := 3) sc_wrong_row.nd rfl (by first | exact Or.inl rfl | exact Or.inr rfl)) (pgs_cons (pg_name (i := 4) sc_wrong_row.nd rfl (by first | exact Or.inl rfl | exact Or.inr rfl)) pgs_nil)))
      (pss_one (ps_if (PW.pt (pw_or (pt_not (pt_val (pe_call (ok_is_row T) (hr.mono (by decide)) (by rfl) T.d_is_row.g T.d_is_row.F.kp T.d_is_row.b .nil pass0 (pa_cons (pv 0) (pa_cons (pv 1) (pa_cons (pv 4) pa_nil)))))) (pw_or1 (pt_cmpR (inDTK (K := K) hr) (pv 4) (pe_slice (slTK (K := K)) (pv 2) po_none (po_some (pv 3))) (by rfl)))))
        (pss_one (ps_ret (pv 3)))
        pss_nil)))
      (pss_one (ps_ret pe_non)))), ?_⟩
  rcases hR with rfl | ⟨xs, rfl, hl, hall⟩
  · have hres' : res = .int (-1) := by
      rcases hres with ⟨⟨xs, h, _⟩, rfl⟩ | ⟨k, ⟨_, rfl⟩ | ⟨xs, m, d, h, _⟩, rfl⟩
      · cases h
      · rfl
      · cases h
    subst hres'
    refine q_whenD (x := !false || false) (et_or (et_not (et_B (ed_isi (ed_var rfl r) kit_non_tup))) fun h => nomatch h) (fun _ H1 e => ?_) (fun h => nomatch h)
    exact s_retD (K := K) (ed_neg ed_int) fun v H2 e2 p => k v H2 (e.trans e2) p
  · refine q_whenD (x := !true || decide ((40 : Int) < (xs.length : Int))) (et_or (et_not (et_B (ed_isi (ed_var rfl r) kit_tup_tup))) fun _ => et_test (ed_op (ed_cb (eds_cons (ed_var rfl r) eds_nil) rcd_lenT) ed_int rd_b)) (fun hx H1 e => ?_) (fun _ H1 e => ?_)
    · rw [decide_eq_false (show ¬ (40 : Int) < (xs.length : Int) by omega)] at hx
      cases hx
    · classical
      have hm : ∀ {i : Nat} {a : PyData}, xs[i]? = some a → (a ∈ xs.take i ↔ ((xs.take i).any fun z => PyData.eqv z a) = true) := fun {i a} ha => by
        rw [List.any_eq_true]
        constructor
        · intro h
          exact ⟨a, h, (eqv_tupled a a (hall a (List.mem_of_getElem? ha)).tupled (hall a (List.mem_of_getElem? ha)).tupled).mpr rfl⟩
        · rintro ⟨z, hz, he⟩
          rw [(eqv_tupled z a (hall z (List.mem_of_mem_take hz)).tupled (hall a (List.mem_of_getElem? ha)).tupled).mp he] at hz
          exact hz
      have hrow : ∀ d, RT d → P_is_row [bookD B, .int (i : Int), d] (.bool (decR (B.getD i []) d)) := fun d hd => ⟨B, i, d, rfl, hB, hi, hd, by
        by_cases h : isRow (B.getD i []) d
        · exact .inl ⟨h, by rw [decR_yes h]⟩
        · exact .inr ⟨h, by rw [decR_no h]⟩⟩
      refine q_findE (xs := xs) (enc := id) (p := fun m d => badB (B.getD i []) xs m d) (r := fun m _ => .int (m : Int)) (ei_enum (eds_cons (by rw [List.map_id]; exact ed_var rfl (r.ex e)) eds_nil)) rfl (by decide)
        (fun m d x y H2 hd e2 px py => ?_) (fun m d x y H2 hd hp e2 px py => ed_var rfl px) (fun m d v H2 hd hp hno e2 pv => k v H2 (e.trans e2) ?_) (fun o o' H2 hno e2 => ?_)
      · have hmem := List.mem_of_getElem? hd
        refine ET.is (et_or (et_not (et_B (ed_call (eds_cons (ed_var rfl ((p.ex e).ex e2)) (eds_cons (ed_var rfl ((q.ex e).ex e2)) (eds_cons (ed_var rfl py) eds_nil))) (hrow d (hall d hmem))))) fun _ => et_test (ed_op (ed_var rfl py) (ed_slTo (ed_var rfl ((r.ex e).ex e2)) (ed_var rfl px)) (rd_inDT (shaped_of (hall d hmem).tupled (by have := (hall d hmem).depth; show d.depth ≤ 60; omega)) ?_))) ?_
        · exact shaped_of (tupled_tup fun z hz => (hall z (List.mem_of_mem_take hz)).tupled) (by have := depth_tup (n := 1) (ds := xs.take m) fun z hz => (hall z (List.mem_of_mem_take hz)).depth; omega)
        · unfold badB
          have : decide (d ∈ xs.take m) = (xs.take m).any fun z => PyData.eqv z d := by
            rw [Bool.eq_iff_iff, decide_eq_true_iff]
            exact hm hd
          rw [this]
          rfl
      · rcases hres with ⟨⟨xs', hx, hg⟩, rfl⟩ | ⟨kk, ⟨hx, _⟩ | ⟨xs', m', d', hx, rfl, hd', hbad, hfirst⟩, rfl⟩
        · cases hx
          obtain ⟨g1, g2⟩ := hg m d hd
          rw [badB_no g1 g2] at hp; cases hp
        · cases hx
        · cases hx
          have : m = m' := by
            rcases Nat.lt_trichotomy m m' with h | h | h
            · obtain ⟨g1, g2⟩ := hfirst m d h hd
              rw [badB_no g1 g2] at hp; cases hp
            · exact h
            · have := hno m' d' h hd'
              rw [badB_yes hbad] at this; cases this
          subst this
          exact pv
      · refine s_retD (K := K) ed_non fun v H3 e3 pv => k v H3 ((e.trans e2).trans e3) ?_
        rcases hres with ⟨⟨xs', hx, hg⟩, rfl⟩ | ⟨kk, ⟨hx, _⟩ | ⟨xs', m', d', hx, rfl, hd', hbad, hfirst⟩, rfl⟩
        · exact pv
        · cases hx
        · cases hx
          have := hno m' d' hd'
          rw [badB_yes hbad] at this; cases this
def P_wrong_place : List PyData → PyData → Prop := fun ds res => ∃ (B : List (List Int)) (ys : List PyData), ds = [bookD B, .tuple ys] ∧ bookB B ∧ ys.length = B.length ∧ (∀ y ∈ ys, RsT y) ∧ ((res = .none ∧ ∀ (m : Nat) y, ys[m]? = some y → GoodRows (B.getD m []) y) ∨
  ∃ (m : Nat) (y : PyData) (kk : Int), res = .tuple [.int (m : Int), .int kk] ∧ ys[m]? = some y ∧ BadAt (B.getD m []) y kk ∧ ∀ (m' : Nat) y', m' < m → ys[m']? = some y' → GoodRows (B.getD m' []) y')
theorem bad_good {s : List Int} {y : PyData} {kk : Int} (h : BadAt s y kk) : ¬ GoodRows s y := by
  rintro ⟨xs, rfl, hg⟩
  rcases h with ⟨h, _⟩ | ⟨xs', m, d, h, _, hd, hb, _⟩
  · cases h
  · cases h
    obtain ⟨g1, g2⟩ := hg m d hd
    rcases hb with hb | hb
    · exact hb g1
    · exact g2 hb
theorem least_of {p : Nat → Prop} : ∀ n, p n → ∃ m, p m ∧ ∀ k, k < m → ¬ p k := fun n => by
  induction n using Nat.strongRecOn with
  | ind n ih =>
    intro h
    by_cases q : ∃ k, k < n ∧ p k
    · obtain ⟨k, h1, h2⟩ := q
      exact ih k h1 h2
    · exact ⟨n, h, fun k hk hp => q ⟨k, hk, hp⟩⟩
theorem good_or_bad {s : List Int} {y : PyData} (h : RsT y) : GoodRows s y ∨ ∃ kk, BadAt s y kk := by
  rcases h with rfl | ⟨xs, rfl, _, _⟩
  · exact .inr ⟨-1, .inl ⟨rfl, rfl⟩⟩
  · by_cases q : ∃ m, ∃ d, xs[m]? = some d ∧ (¬ isRow s d ∨ d ∈ xs.take m)
    · obtain ⟨m0, q0⟩ := q
      obtain ⟨m, ⟨d, h1, h2⟩, h3⟩ := least_of (p := fun m => ∃ d, xs[m]? = some d ∧ (¬ isRow s d ∨ d ∈ xs.take m)) m0 q0
      refine .inr ⟨m, .inr ⟨xs, m, d, rfl, rfl, h1, h2, fun m' d' hlt hd' => ?_⟩⟩
      refine ⟨Classical.byContradiction fun n => h3 m' hlt ⟨d', hd', .inl n⟩, fun n => h3 m' hlt ⟨d', hd', .inr n⟩⟩
    · refine .inl ⟨xs, rfl, fun m d hd => ?_⟩
      exact ⟨Classical.byContradiction fun n => q ⟨m, d, hd, .inl n⟩, fun n => q ⟨m, d, hd, .inr n⟩⟩
theorem sc_wrong_place : FnScope ["book", "thing", "source", "rows", "index"] ["book", "thing"] (defScope st_wrong_place) := ⟨rfl, rfl, rfl, by decide +kernel, rfl, by decide +kernel, by decide +kernel⟩
theorem ok_wrong_place (T : Txt K mg) : FnOk P w K mg base CX0 7 T.d_wrong_place.f T.d_wrong_place.fd ["book", "thing"] (PureSp K P_wrong_place) := by
  refine T.d_wrong_place.F.ok sc_wrong_place ?len (fun cdv A outer s H vs Q E hr h => ?_)
  case len =>
    rintro vs H Q E ⟨ds, d, h, ⟨B, ys, rfl, _⟩, _⟩
    exact h.length
  obtain ⟨ds, res, hA, ⟨B, ys, rfl, hB, hl, hR, hres⟩, k⟩ := h
  obtain ⟨v, u, rfl, p, q⟩ := dpa2 hA
  have hBl := hB.2.1
  refine ⟨_, (pss_cons (ps_for PassesOwn.never rfl (piEK (K := K) (by rfl) T.b_enumerate (pa_cons (pv 1) pa_nil)) (pgTK (K := K) rfl (pgs_cons (pg_name (i := 2) sc_wrong_place.nd rfl (by first | exact Or.inl rfl | exact Or.inr rfl)) (pgs_cons (pg_name (i := 3) sc_wrong_place.nd rfl (by first | exact Or.inl rfl | exact Or.inr rfl)) pgs_nil)))
      (pss_cons (ps_set (i := 4) sc_wrong_place.nd rfl (by first | exact Or.inl rfl | exact Or.inr rfl) (pe_call (ok_wrong_row T) (hr.mono (by decide)) (by rfl) T.d_wrong_row.g T.d_wrong_row.F.kp T.d_wrong_row.b .nil pass0 (pa_cons (pv 0) (pa_cons (pv 2) (pa_cons (pv 3) pa_nil)))))
        (pss_one (ps_if (pt_cmpR op_notN (pv 4) pe_non (nomark _))
        (pss_one (ps_ret (pe_tup (pa_cons (pv 2) (pa_cons (pv 4) pa_nil)))))
        pss_nil))))
      (pss_one (ps_ret pe_non))), ?_⟩
  refine q_forD (ei_enum (α := PyData) (enc := id) (ds := ys) (eds_cons (by rw [List.map_id]; exact ed_var rfl q) eds_nil)) (fun H2 i σ' H' => Ex H H' ∧ Ex H2 H' ∧ (∀ (m : Nat) y, m < i → ys[m]? = some y → GoodRows (B.getD m []) y) ∧ ∃ o1 o2 o3, σ' = [some v, some u, o1, o2, o3])
    (fun H2 e => ⟨e, Ex.refl _, fun m y h => absurd h (Nat.not_lt_zero _), none, none, none, rfl⟩) (fun H2 i σ' H' _ h => h.2.1) ?_ ?_
  · rintro H2 i d x σ' H' H'' e2 hd ⟨e, e1, hno, o1, o2, o3, rfl⟩ eH px
    obtain ⟨y, hy, rfl⟩ := enD_at hd
    refine eg_pair px fun a b pa pb => ?_
    have em := e.trans eH
    have hi : i < B.length := by have := (List.getElem?_eq_some_iff.mp hy).1; omega
    have hyR := hR y (List.mem_of_getElem? hy)
    rcases good_or_bad (s := B.getD i []) hyR with hg | ⟨kk, hb⟩
    · refine q_asgD (ed_call (eds_cons (ed_var rfl (p.ex em)) (eds_cons (ed_var rfl pa) (eds_cons (ed_var rfl pb) eds_nil))) ⟨B, i, y, rfl, hB, hi, hyR, .inl ⟨hg, rfl⟩⟩) fun z H3 e3 pz => ?_
      refine s_ifD (x := false) (et_test (ed_op (ed_var rfl pz) ed_non rd_notN)) (fun h => nomatch h) fun _ H4 e4 => ⟨(em.trans e3).trans e4, (e1.trans eH).trans (e3.trans e4), fun m y' hm hy' => ?_, _, _, _, rfl⟩
      by_cases hmi : m = i
      · subst hmi; rw [hy] at hy'; cases hy'; exact hg
      · exact hno m y' (by omega) hy'
    · refine q_asgD (ed_call (eds_cons (ed_var rfl (p.ex em)) (eds_cons (ed_var rfl pa) (eds_cons (ed_var rfl pb) eds_nil))) ⟨B, i, y, rfl, hB, hi, hyR, .inr ⟨kk, hb, rfl⟩⟩) fun z H3 e3 pz => ?_
      refine s_ifD (x := true) (et_test (ed_op (ed_var rfl pz) ed_non rd_notN)) (fun _ H4 e4 => ?_) fun h => nomatch h
      refine s_retD (ed_tup (eds_cons (ed_var rfl ((pa.ex e3).ex e4)) (eds_cons (ed_var rfl (pz.ex e4)) eds_nil)) (by show 2 ≤ 100000; decide)) fun r H5 e5 pr => k r H5 ((em.trans e3).trans (e4.trans e5)) ?_
      rcases hres with ⟨rfl, hall⟩ | ⟨m, y', kk', rfl, hy', hb', hfirst⟩
      · exact absurd (hall i y hy) (bad_good hb)
      · have : i = m := by
          rcases Nat.lt_trichotomy i m with h | h | h
          · exact absurd (hfirst i y h hy) (bad_good hb)
          · exact h
          · exact absurd (hno m y' h hy') (bad_good hb')
        subst this
        rw [hy] at hy'; cases hy'
        rw [bad_inj hb' hb]
        exact pr
  · rintro H2 σ' H' e2 ⟨e, e1, hno, o1, o2, o3, rfl⟩
    have hlen : (enD (id : PyData → PyData) ys).length = ys.length := by rw [List.length_map, List.length_zipIdx]
    rw [hlen] at hno
    refine s_retD (K := K) ed_non fun r H3 e3 pr => k r H3 (e.trans e3) ?_
    rcases hres with ⟨rfl, hall⟩ | ⟨m, y', kk', rfl, hy', hb', hfirst⟩
    · exact pr
    · exact absurd (hno m y' (List.getElem?_eq_some_iff.mp hy').1 hy') (bad_good hb')
end
end BB
/-! D3: entries, tags. -/
namespace BB
open PySem L2 Evl
section
variable {P : Program} {w : World} {K : PySem.W.Frag} {mg : Str → Option Value} {base : Heap}
theorem dec_nat (a b : Nat) : decide ((a : Int) = (b : Int)) = decide (a = b) := by
  by_cases h : a = b
  · rw [decide_eq_true h, decide_eq_true (by omega)]
  · rw [decide_eq_false h, decide_eq_false (by omega)]
def P_has_entries : List PyData → PyData → Prop := fun ds res => ∃ (B : List (List Int)) (ys : List PyData), ds = [bookD B, .tuple ys] ∧ res = .bool (decide (ys.length = B.length))
theorem sc_has_entries : FnScope ["book", "thing"] ["book", "thing"] (defScope st_has_entries) := ⟨rfl, rfl, rfl, by decide +kernel, rfl, by decide +kernel, by decide +kernel⟩
theorem ok_has_entries (T : Txt K mg) : FnOk P w K mg base CX0 1 T.d_has_entries.f T.d_has_entries.fd ["book", "thing"] (PureSp K P_has_entries) := by
  refine T.d_has_entries.F.ok sc_has_entries ?len (fun cdv A outer s H vs Q E hr h => ?_)
  case len =>
    rintro vs H Q E ⟨ds, d, h, ⟨B, i, rfl, _⟩, _⟩
    exact h.length
  obtain ⟨ds, res, hA, ⟨B, ys, rfl, rfl⟩, k⟩ := h
  obtain ⟨v, u, rfl, p, q⟩ := dpa2 hA
  refine ⟨_, (pss_one (ps_ret (pe_and (pe_callB (isiK (K := K)) (by rfl) T.b_isinstance (by decide +kernel) (pa_cons (pv 1) (pa_cons (pe_bltn (v := .ty "tuple") (by rfl) T.b_tuple (by decide +kernel) rfl) pa_nil))) (pe_one (pe_cmpR op_eq (pe_callB (lenK (K := K)) (by rfl) T.b_len (by decide +kernel) (pa_cons (pv 1) pa_nil)) (pe_callB (lenK (K := K)) (by rfl) T.b_len (by decide +kernel) (pa_cons (pv 0) pa_nil)) (nomark _)))))), ?_⟩
  refine s_retD ((ed_and (ed_isi (ed_var rfl q) kit_tup_tup) fun _ => ed_op (ed_cb (eds_cons (ed_var rfl q) eds_nil) rcd_lenT) (ed_lenT (ed_var rfl p)) rd_eqI).is ?_) fun v H1 e p => k v H1 e p
  rw [dec_nat, Bool.true_and]
/-- data of a book, as they stand -/
structure DataT (B : List (List Int)) (ys : List PyData) : Prop where
  len : ys.length = B.length
  row : ∀ y ∈ ys, RsT y
def AllGood (B : List (List Int)) (ys : List PyData) : Prop := ∀ (m : Nat) y, ys[m]? = some y → GoodRows (B.getD m []) y
theorem sc_want_data : FnScope ["book", "thing", "place"] ["book", "thing"] (defScope st_want_data) := ⟨rfl, rfl, rfl, by decide +kernel, rfl, by decide +kernel, by decide +kernel⟩
theorem ok_want_data (T : Txt K mg) : FnOk P w K mg base CX0 8 T.d_want_data.f T.d_want_data.fd ["book", "thing"] (PureSp K fun ds res => ∃ B ys, ds = [bookD B, .tuple ys] ∧ bookB B ∧ DataT B ys ∧ AllGood B ys ∧ res = .none) := by
  refine T.d_want_data.F.ok sc_want_data ?len (fun cdv A outer s H vs Q E hr h => ?_)
  case len =>
    rintro vs H Q E ⟨ds, d, h, ⟨B, i, rfl, _⟩, _⟩
    exact h.length
  obtain ⟨ds, res, hA, ⟨B, ys, rfl, hB, hT, hG, rfl⟩, k⟩ := h
  obtain ⟨v, u, rfl, p, q⟩ := dpa2 hA
  refine ⟨_, (pss_cons (ps_if (pt_not (pt_val (pe_call (ok_has_entries T) (hr.mono (by decide)) (by rfl) T.d_has_entries.g T.d_has_entries.F.kp T.d_has_entries.b .nil pass0 (pa_cons (pv 0) (pa_cons (pv 1) pa_nil)))))
      (pss_one ps_never)
      pss_nil)
      (pss_cons (ps_set (i := 2) sc_want_data.nd rfl (by first | exact Or.inl rfl | exact Or.inr rfl) (pe_call (ok_wrong_place T) (hr.mono (by decide)) (by rfl) T.d_wrong_place.g T.d_wrong_place.F.kp T.d_wrong_place.b .nil pass0 (pa_cons (pv 0) (pa_cons (pv 1) pa_nil))))
      (pss_one (ps_if (pt_cmpR op_notN (pv 2) pe_non (nomark _))
      (pss_one ps_never)
      pss_nil)))), ?_⟩
  refine q_whenD (x := false) (ET.is (et_not (et_B (ed_call (eds_cons (ed_var rfl p) (eds_cons (ed_var rfl q) eds_nil)) ⟨B, ys, rfl, rfl⟩))) (by rw [decide_eq_true hT.len]; rfl)) (fun h => nomatch h) fun _ H1 e => ?_
  refine q_asgD (ed_call (eds_cons (ed_var rfl (p.ex e)) (eds_cons (ed_var rfl (q.ex e)) eds_nil)) ⟨B, ys, rfl, hB, hT.len, hT.row, .inl ⟨rfl, hG⟩⟩) fun z H2 e2 pz => ?_
  refine s_ifD (x := false) (et_test (ed_op (ed_var rfl pz) ed_non rd_notN)) (fun h => nomatch h) fun _ H3 e3 => ?_
  exact k _ H3 ((e.trans e2).trans e3) .non
theorem sc_is_data : FnScope ["book", "thing"] ["book", "thing"] (defScope st_is_data) := ⟨rfl, rfl, rfl, by decide +kernel, rfl, by decide +kernel, by decide +kernel⟩
theorem ok_is_data (T : Txt K mg) : FnOk P w K mg base CX0 8 T.d_is_data.f T.d_is_data.fd ["book", "thing"] (PureSp K fun ds res => ∃ B ys, ds = [bookD B, .tuple ys] ∧ bookB B ∧ DataT B ys ∧ ((AllGood B ys ∧ res = .bool true) ∨ ((∃ (m : Nat) (y : PyData), ys[m]? = some y ∧ ¬ GoodRows (B.getD m []) y) ∧ res = .bool false))) := by
  refine T.d_is_data.F.ok sc_is_data ?len (fun cdv A outer s H vs Q E hr h => ?_)
  case len =>
    rintro vs H Q E ⟨ds, d, h, ⟨B, i, rfl, _⟩, _⟩
    exact h.length
  obtain ⟨ds, res, hA, ⟨B, ys, rfl, hB, hT, hres⟩, k⟩ := h
  obtain ⟨v, u, rfl, p, q⟩ := dpa2 hA
  refine ⟨_, (pss_one (ps_ret (pe_and (pe_call (ok_has_entries T) (hr.mono (by decide)) (by rfl) T.d_has_entries.g T.d_has_entries.F.kp T.d_has_entries.b .nil pass0 (pa_cons (pv 0) (pa_cons (pv 1) pa_nil))) (pe_one (pe_cmpR op_isN (pe_call (ok_wrong_place T) (hr.mono (by decide)) (by rfl) T.d_wrong_place.g T.d_wrong_place.F.kp T.d_wrong_place.b .nil pass0 (pa_cons (pv 0) (pa_cons (pv 1) pa_nil))) pe_non (nomark _)))))), ?_⟩
  rcases hres with ⟨hG, rfl⟩ | ⟨hbad, rfl⟩
  · refine s_retD ((ed_and (ed_call (eds_cons (ed_var rfl p) (eds_cons (ed_var rfl q) eds_nil)) ⟨B, ys, rfl, rfl⟩) fun _ => ed_op (ed_call (eds_cons (ed_var rfl p) (eds_cons (ed_var rfl q) eds_nil)) ⟨B, ys, rfl, hB, hT.len, hT.row, .inl ⟨rfl, hG⟩⟩) ed_non rd_isN).is ?_) fun v H1 e p => k v H1 e p
    rw [decide_eq_true hT.len]; rfl
  · have : ∃ (m : Nat) (y : PyData) (kk : Int), ys[m]? = some y ∧ BadAt (B.getD m []) y kk ∧ ∀ (m' : Nat) y', m' < m → ys[m']? = some y' → GoodRows (B.getD m' []) y' := by
      obtain ⟨m0, q0⟩ := hbad
      obtain ⟨m, ⟨y, h1, h2⟩, h3⟩ := least_of (p := fun m => ∃ y, ys[m]? = some y ∧ ¬ GoodRows (B.getD m []) y) m0 q0
      rcases good_or_bad (s := B.getD m []) (hT.row y (List.mem_of_getElem? h1)) with hg | ⟨kk, hk⟩
      · exact absurd hg h2
      · exact ⟨m, y, kk, h1, hk, fun m' y' hm hy => Classical.byContradiction fun n => h3 m' hm ⟨y', hy, n⟩⟩
    obtain ⟨m, y, kk, h1, h2, h3⟩ := this
    refine s_retD ((ed_and (ed_call (eds_cons (ed_var rfl p) (eds_cons (ed_var rfl q) eds_nil)) ⟨B, ys, rfl, rfl⟩) fun _ => ed_op (ed_call (eds_cons (ed_var rfl p) (eds_cons (ed_var rfl q) eds_nil)) ⟨B, ys, rfl, hB, hT.len, hT.row, .inr ⟨m, y, kk, rfl, h1, h2, h3⟩⟩) ed_non rd_isN).is ?_) fun v H1 e p => k v H1 e p
    rw [decide_eq_true hT.len]; rfl
theorem sc_made_data : FnScope ["book", "thing"] ["book", "thing"] (defScope st_made_data) := ⟨rfl, rfl, rfl, by decide +kernel, rfl, by decide +kernel, by decide +kernel⟩
theorem ok_made_data (T : Txt K mg) : FnOk P w K mg base CX0 9 T.d_made_data.f T.d_made_data.fd ["book", "thing"] (PureSp K fun ds res => ∃ B ys, ds = [bookD B, .tuple ys] ∧ bookB B ∧ DataT B ys ∧ AllGood B ys ∧ res = .tuple ys) := by
  refine T.d_made_data.F.ok sc_made_data ?len (fun cdv A outer s H vs Q E hr h => ?_)
  case len =>
    rintro vs H Q E ⟨ds, d, h, ⟨B, i, rfl, _⟩, _⟩
    exact h.length
  obtain ⟨ds, res, hA, ⟨B, ys, rfl, hB, hT, hG, rfl⟩, k⟩ := h
  obtain ⟨v, u, rfl, p, q⟩ := dpa2 hA
  refine ⟨_, (pss_cons (ps_set (i := 0) sc_made_data.nd rfl (by first | exact Or.inl rfl | exact Or.inr rfl) (pe_call (ok_made_book T) (hr.mono (by decide)) (by rfl) T.d_made_book.g T.d_made_book.F.kp T.d_made_book.b .nil pass0 (pa_cons (pv 0) pa_nil)))
      (pss_cons (ps_expr (pe_call (ok_want_data T) (hr.mono (by decide)) (by rfl) T.d_want_data.g T.d_want_data.F.kp T.d_want_data.b .nil pass0 (pa_cons (pv 0) (pa_cons (pv 1) pa_nil))))
      (pss_one (ps_ret (pv 1))))), ?_⟩
  refine q_asgD (ed_call (eds_cons (ed_var rfl p) eds_nil) ⟨B, rfl, hB, rfl⟩) fun z H1 e pz => ?_
  refine q_exprD (ed_call (eds_cons (ed_var rfl pz) (eds_cons (ed_var rfl (q.ex e)) eds_nil)) ⟨B, ys, rfl, hB, hT, hG, rfl⟩) fun H2 e2 => ?_
  exact s_retD (ed_var rfl ((q.ex e).ex e2)) fun v H3 e3 p3 => k v H3 ((e.trans e2).trans e3) p3
/-! ### tags -/
abbrev Tags := List (Option Nat)
theorem tagD_isN (t : Option Nat) : isN (tagD t) = t.isNone := by cases t <;> rfl
theorem sc_has_tags_form : FnScope ["book", "thing", "tag"] ["book", "thing"] (defScope st_has_tags_form) := ⟨rfl, rfl, rfl, by decide +kernel, rfl, by decide +kernel, by decide +kernel⟩
theorem ok_has_tags_form (T : Txt K mg) : FnOk P w K mg base CX0 2 T.d_has_tags_form.f T.d_has_tags_form.fd ["book", "thing"] (PureSp K fun ds res => ∃ (B : List (List Int)) (t : Tags), ds = [bookD B, tagsD t] ∧ B.length ≤ 100 ∧ t.length = B.length ∧ res = .bool (t.any Option.isSome)) := by
  refine T.d_has_tags_form.F.ok sc_has_tags_form ?len (fun cdv A outer s H vs Q E hr h => ?_)
  case len =>
    rintro vs H Q E ⟨ds, d, h, ⟨B, i, rfl, _⟩, _⟩
    exact h.length
  obtain ⟨ds, res, hA, ⟨B, t, rfl, hB, hT, rfl⟩, k⟩ := h
  obtain ⟨v, u, rfl, p, q⟩ := dpa2 hA
  refine ⟨_, (pss_cons (ps_if (PW.pt (pw_or (pt_not (pt_val (pe_call (ok_has_entries T) (hr.mono (by decide)) (by rfl) T.d_has_entries.g T.d_has_entries.F.kp T.d_has_entries.b .nil pass0 (pa_cons (pv 0) (pa_cons (pv 1) pa_nil))))) (pw_or1 (pt_val (pe_callB (allK (K := K) rfl) (by rfl) T.b_all (by decide +kernel) (pa_cons (pe_lc (own := [("tag", 2)]) rfl sc_has_tags_form.nd (piTK (K := K) (pv 1)) (blkOk_by (own := [("tag", 2)]) (N := ["book", "thing", "tag"]) (sc := defScope st_has_tags_form) (by decide +kernel)) (fun _ _ _ _ _ => (pg_name (i := 2) sc_has_tags_form.nd rfl (by first | exact Or.inl rfl | exact Or.inr rfl))) (fun _ _ _ _ _ => pts_nil) (fun _ _ _ _ _ => (pe_cmpR op_isN (pv 2) pe_non (nomark _)))) pa_nil))))))
      (pss_one (ps_ret pe_bl))
      pss_nil)
      (pss_one (ps_ret (pe_callB (allK (K := K) rfl) (by rfl) T.b_all (by decide +kernel) (pa_cons (pe_lc (own := [("tag", 2)]) rfl sc_has_tags_form.nd (piTK (K := K) (pv 1)) (blkOk_by (own := [("tag", 2)]) (N := ["book", "thing", "tag"]) (sc := defScope st_has_tags_form) (by decide +kernel)) (fun _ _ _ _ _ => (pg_name (i := 2) sc_has_tags_form.nd rfl (by first | exact Or.inl rfl | exact Or.inr rfl))) (fun _ _ _ _ _ => pts_nil) (fun _ _ _ _ _ => (pe_or (pe_cmpR op_isN (pv 2) pe_non (nomark _)) (pe_one (pe_and (pe_call (ok_is_whole_number T) (hr.mono (by decide)) (by rfl) T.d_is_whole_number.g T.d_is_whole_number.F.kp T.d_is_whole_number.b .nil pass0 (pa_cons (pv 2) pa_nil)) (pe_one (pe_cmpR op_ge (pv 2) pe_int (nomark _)))))))) pa_nil))))), ?_⟩
  have hl : (t.map tagD).length = B.length := by rw [List.length_map, hT]
  refine q_whenD (x := !true || t.all Option.isNone) (et_or (et_not (ET.is (et_B (ed_call (eds_cons (ed_var rfl p) (eds_cons (ed_var rfl q) eds_nil)) ⟨B, _, rfl, rfl⟩)) (by rw [decide_eq_true hl]))) fun _ =>
    et_B (ed_all (ed_lcY (xs := t) (enc := tagD) (w := fun i => .bool i.isNone) (fun H1 e => ei_tup (ed_var rfl (q.ex e))) (by omega) (fun _ _ => rfl) (fun _ => rfl)
      (fun c x H1 _ e px => (ed_op (ed_var rfl px) ed_non rd_isN).is (by rw [tagD_isN]))))) (fun hx H1 e => ?_) (fun hx H1 e => ?_)
  · rw [Bool.not_true, Bool.false_or] at hx
    refine s_retD (K := K) ed_bl fun v H2 e2 pv => k v H2 (e.trans e2) ?_
    have : t.any Option.isSome = false := by
      rw [List.any_eq_false]
      intro x hx'
      have := List.all_eq_true.mp hx x hx'
      cases x <;> simp_all
    rw [this]; exact pv
  · rw [Bool.not_true, Bool.false_or] at hx
    have h2 : t.any Option.isSome = true := by
      rw [List.any_eq_true]
      obtain ⟨x, h1, h3⟩ := List.all_eq_false.mp hx
      exact ⟨x, h1, by cases x <;> simp_all⟩
    rw [h2] at k
    refine s_retD ((ed_all (ed_lcY (xs := t) (enc := tagD) (w := fun i => .bool (i.isNone || true)) (fun H1 e2 => ei_tup (ed_var rfl ((q.ex e).ex e2))) (by omega) (fun _ _ => rfl) (fun _ => rfl)
      (fun c x H1 _ e2 px => ?_))).is ?_) fun v H1 e2 p => k v H1 (e.trans e2) p
    · cases c with
      | none => exact (ed_or (y := true) (ed_op (ed_var rfl px) ed_non rd_isN) fun h => nomatch h).is rfl
      | some m =>
        refine (ed_or (y := true) (ed_op (ed_var rfl px) ed_non rd_isN) fun _ => (ed_and (x := true) (ed_call (eds_cons (ed_var rfl px) eds_nil) ⟨(m : Int), rfl, rfl⟩) fun _ => ed_op (ed_var rfl px) ed_int rd_b).is ?_).is rfl
        rw [decide_eq_true (show (0 : Int) ≤ (m : Int) by omega)]; rfl
    · have : (t.all fun i => i.isNone || true) = true := List.all_eq_true.mpr fun x _ => by simp
      rw [this]
/-- tags in range -/
def InR (R : List (List (List Int))) (t : Tags) : Prop := ∀ (m k : Nat), t[m]? = some (some k) → k < (R.getD m []).length
theorem dget {R : List (List (List Int))} {i : Nat} (h : i < R.length) : (R.map rowsD)[i]? = some (rowsD (R.getD i [])) := by
  rw [List.getElem?_map, getD_of h]; rfl
theorem sc_lacking : FnScope ["data", "tags", "source", "tag"] ["data", "tags"] (defScope st_lacking) := ⟨rfl, rfl, rfl, by decide +kernel, rfl, by decide +kernel, by decide +kernel⟩
theorem ok_lacking (T : Txt K mg) : FnOk P w K mg base CX0 1 T.d_lacking.f T.d_lacking.fd ["data", "tags"] (PureSp K fun ds res => ∃ (R : List (List (List Int))) (t : Tags), ds = [dataD R, tagsD t] ∧ t.length = R.length ∧ InR R t ∧ res = .none) := by
  refine T.d_lacking.F.ok sc_lacking ?len (fun cdv A outer s H vs Q E hr h => ?_)
  case len =>
    rintro vs H Q E ⟨ds, d, h, ⟨B, i, rfl, _⟩, _⟩
    exact h.length
  obtain ⟨ds, res, hA, ⟨R, t, rfl, hl, hI, rfl⟩, k⟩ := h
  obtain ⟨v, u, rfl, p, q⟩ := dpa2 hA
  refine ⟨_, (pss_cons (ps_for PassesOwn.never rfl (piEK (K := K) (by rfl) T.b_enumerate (pa_cons (pv 1) pa_nil)) (pgTK (K := K) (n := 2) rfl (pgs_cons (pg_name (i := 2) sc_lacking.nd rfl (by first | exact Or.inl rfl | exact Or.inr rfl)) (pgs_cons (pg_name (i := 3) sc_lacking.nd rfl (by first | exact Or.inl rfl | exact Or.inr rfl)) pgs_nil)))
      (pss_one (ps_if (PW.pt (pw_and (pt_cmpR op_notN (pv 3) pe_non (nomark _)) (pw_and1 (pt_cmpR op_ge (pv 3) (pe_callB (lenK (K := K)) (by rfl) T.b_len (by decide +kernel) (pa_cons (pe_ix (ixTK (K := K)) (pv 0) (pv 2) (fun _ _ => rfl)) pa_nil)) (nomark _)))))
        (pss_one (ps_ret (pv 2)))
        pss_nil)))
      (pss_one (ps_ret pe_non))), ?_⟩
  refine q_findE (xs := t) (enc := tagD) (p := fun _ _ => false) (r := fun _ _ => .none) (ei_enum (eds_cons (ed_var rfl q) eds_nil)) rfl (by decide) (fun i a x y H1 ha e px py => ?_) (fun i a x y H1 ha hp e px py => nomatch hp) (fun i a v H1 ha hp hno e pv => nomatch hp) (fun o o' H1 hno e => ?_)
  · cases a with
    | none => exact (et_and' (y := false) (et_test (ed_op (ed_var rfl py) ed_non rd_notN)) fun h => nomatch h)
    | some m =>
      have hi : i < R.length := by rw [← hl]; exact (List.getElem?_eq_some_iff.mp ha).1
      refine ET.is (et_and' (et_test (ed_op (ed_var rfl py) ed_non rd_notN)) fun _ => et_test (ed_op (ed_var rfl py) (ed_lenT (ed_op (ed_var rfl (p.ex e)) (ed_var rfl px) (rd_ixT (dget hi)))) rd_b)) ?_
      have := hI i m ha
      rw [decide_eq_false (show ¬ ((R.getD i []).length : Int) ≤ (m : Int) by omega), Bool.and_false]
  · exact s_retD (K := K) ed_non fun v H2 e2 pv => k v H2 (e.trans e2) pv
theorem sc_is_tags : FnScope ["book", "data", "thing"] ["book", "data", "thing"] (defScope st_is_tags) := ⟨rfl, rfl, rfl, by decide +kernel, rfl, by decide +kernel, by decide +kernel⟩
theorem ok_is_tags (T : Txt K mg) : FnOk P w K mg base CX0 3 T.d_is_tags.f T.d_is_tags.fd ["book", "data", "thing"] (PureSp K fun ds res => ∃ (B : List (List Int)) (R : List (List (List Int))) (t : Tags), ds = [bookD B, dataD R, tagsD t] ∧ B.length ≤ 100 ∧ R.length = B.length ∧ t.length = B.length ∧ InR R t ∧ res = .bool (t.any Option.isSome)) := by
  refine T.d_is_tags.F.ok sc_is_tags ?len (fun cdv A outer s H vs Q E hr h => ?_)
  case len =>
    rintro vs H Q E ⟨ds, d, h, ⟨B, i, t, rfl, _⟩, _⟩
    exact h.length
  obtain ⟨ds, res, hA, ⟨B, R, t, rfl, hB, hR, hl, hI, rfl⟩, k⟩ := h
  obtain ⟨v, u, z, rfl, p, q, r⟩ := dpa3 hA
  refine ⟨_, (pss_one (ps_ret (pe_and (pe_call (ok_has_tags_form T) (hr.mono (by decide)) (by rfl) T.d_has_tags_form.g T.d_has_tags_form.F.kp T.d_has_tags_form.b .nil pass0 (pa_cons (pv 0) (pa_cons (pv 2) pa_nil))) (pe_one (pe_cmpR op_isN (pe_call (ok_lacking T) (hr.mono (by decide)) (by rfl) T.d_lacking.g T.d_lacking.F.kp T.d_lacking.b .nil pass0 (pa_cons (pv 1) (pa_cons (pv 2) pa_nil))) pe_non (nomark _)))))), ?_⟩
  refine s_retD ((ed_and (ed_call (eds_cons (ed_var rfl p) (eds_cons (ed_var rfl r) eds_nil)) ⟨B, t, rfl, hB, hl, rfl⟩) fun _ => ed_op (ed_call (eds_cons (ed_var rfl q) (eds_cons (ed_var rfl r) eds_nil)) ⟨R, t, rfl, by omega, hI, rfl⟩) ed_non rd_isN).is ?_) fun v H1 e p => k v H1 e p
  show PyData.bool (t.any Option.isSome && true) = _
  rw [Bool.and_true]
/-- the places that are filled -/
def haveN (t : Tags) : List Nat := (t.zipIdx.filter fun p => p.1.isSome).map fun p => p.2
theorem sc_have : FnScope ["tags", "source", "tag"] ["tags"] (defScope st_have) := ⟨rfl, rfl, rfl, by decide +kernel, rfl, by decide +kernel, by decide +kernel⟩
theorem ok_have (T : Txt K mg) : FnOk P w K mg base CX0 1 T.d_have.f T.d_have.fd ["tags"] (PureSp K fun ds res => ∃ (t : Tags), ds = [tagsD t] ∧ t.length ≤ 1000 ∧ res = natsD (haveN t)) := by
  refine T.d_have.F.ok sc_have ?len (fun cdv A outer s H vs Q E hr h => ?_)
  case len =>
    rintro vs H Q E ⟨ds, d, h, ⟨t, rfl, _⟩, _⟩
    exact h.length
  obtain ⟨ds, res, hA, ⟨t, rfl, hl, rfl⟩, k⟩ := h
  obtain ⟨v, rfl, p⟩ := dpa1 hA
  refine ⟨_, (pss_one (ps_ret (pe_callTy (tupK (K := K)) (by rfl) T.b_tuple (by decide +kernel) (pa_cons (pe_lc (own := [("source", 1), ("tag", 2)]) rfl sc_have.nd (piEK (K := K) (by rfl) T.b_enumerate (pa_cons (pv 0) pa_nil)) (blkOk_by (own := [("source", 1), ("tag", 2)]) (N := ["tags", "source", "tag"]) (sc := defScope st_have) (by decide +kernel)) (fun _ _ _ _ _ => (pgTK (K := K) (n := 2) rfl (pgs_cons (pg_name (i := 1) sc_have.nd rfl (by first | exact Or.inl rfl | exact Or.inr rfl)) (pgs_cons (pg_name (i := 2) sc_have.nd rfl (by first | exact Or.inl rfl | exact Or.inr rfl)) pgs_nil)))) (fun _ _ _ _ _ => pts_one (pt_cmpR op_notN (pv 2) pe_non (nomark _))) (fun _ _ _ _ _ => (pv 1))) pa_nil)))), ?_⟩
  refine s_retD ((ed_cb (eds_cons (ed_lcp (xs := t.zipIdx) (e1 := fun p => .int (p.2 : Int)) (e2 := fun p => tagD p.1) (f := fun p => p.1.isSome) (w := fun p => .int (p.2 : Int)) (fun H1 e => ei_enum (α := Option Nat) (enc := tagD) (eds_cons (ed_var rfl (p.ex e)) eds_nil)) (by rw [List.length_zipIdx]; omega) (fun _ _ _ => rfl) (fun _ _ => rfl)
    (fun c x y H1 _ e px py => ET.is (et_test (ed_op (ed_var rfl py) ed_non rd_notN)) (by rw [tagD_isN]; cases c.1 <;> rfl)) (fun c x y H1 _ e px py _ => ed_var rfl px)) eds_nil) rcd_tuple).is ?_) fun v H1 e p => k v H1 e p
  unfold natsD haveN
  rw [List.map_map]; rfl
def rankI : Option Nat → Int
  | none => -1
  | some k => k
theorem sc_rank : FnScope ["tags", "tag"] ["tags"] (defScope st_rank) := ⟨rfl, rfl, rfl, by decide +kernel, rfl, by decide +kernel, by decide +kernel⟩
theorem ok_rank (T : Txt K mg) : FnOk P w K mg base CX0 1 T.d_rank.f T.d_rank.fd ["tags"] (PureSp K fun ds res => ∃ (t : Tags), ds = [tagsD t] ∧ t.length ≤ 1000 ∧ res = schD (t.map rankI)) := by
  refine T.d_rank.F.ok sc_rank ?len (fun cdv A outer s H vs Q E hr h => ?_)
  case len =>
    rintro vs H Q E ⟨ds, d, h, ⟨t, rfl, _⟩, _⟩
    exact h.length
  obtain ⟨ds, res, hA, ⟨t, rfl, hl, rfl⟩, k⟩ := h
  obtain ⟨v, rfl, p⟩ := dpa1 hA
  refine ⟨_, (pss_one (ps_ret (pe_callTy (tupK (K := K)) (by rfl) T.b_tuple (by decide +kernel) (pa_cons (pe_lc (own := [("tag", 1)]) rfl sc_rank.nd (piTK (K := K) (pv 0)) (blkOk_by (own := [("tag", 1)]) (N := ["tags", "tag"]) (sc := defScope st_rank) (by decide +kernel)) (fun _ _ _ _ _ => (pg_name (i := 1) sc_rank.nd rfl (by first | exact Or.inl rfl | exact Or.inr rfl))) (fun _ _ _ _ _ => pts_nil) (fun _ _ _ _ _ => (pe_ifExp (pt_cmpR op_isN (pv 1) pe_non (nomark _)) (pe_un un_neg pe_int) (pv 1)))) pa_nil)))), ?_⟩
  refine s_retD ((ed_cb (eds_cons (ed_lcY (xs := t) (enc := tagD) (w := fun c => .int (rankI c)) (fun H1 e => ei_tup (ed_var rfl (p.ex e))) (by omega) (fun _ _ => rfl) (fun _ => rfl)
    (fun c x H1 _ e px => ?_)) eds_nil) rcd_tuple).is (by show _ = PyData.tuple ((t.map rankI).map PyData.int); rw [List.map_map]; rfl)) fun v H1 e p => k v H1 e p
  cases c with
  | none => exact ed_if (x := true) (et_test (ed_op (ed_var rfl px) ed_non rd_isN)) (fun _ => ed_neg ed_int) fun h => nomatch h
  | some m => exact ed_if (x := false) (et_test (ed_op (ed_var rfl px) ed_non rd_isN)) (fun h => nomatch h) fun _ => ed_var rfl px
end
end BB
/-! K6: new lists of data, lists that are written, loops over them. -/
namespace BB
open PySem L2 Evl
/-- te gives a new list of the data ds -/
def EL (K : PySem.W.Frag) (te : TE) (σ : L2.St) (H : Hp) (ds : List PyData) : Prop := ∀ H1, Ex H H1 → ∀ Q : VK, (∀ p xs H2, H1 p = none → Ex H1 H2 → H2 p = some (.lst xs) → DpAll K H2 xs ds → Q (.ref p) H2) → te σ H1 Q
section
variable {K : PySem.W.Frag} {σ : L2.St} {H H' H0 H1 H2 : Hp} {ta tb te to : TE} {t u : TT} {tl : TA} {wi : TI} {d : PyData} {ds es : List PyData} {l l' : Addr} {D : Ends} {tz tu : TS}
theorem EL.ed (h : EL K te σ H ds) : ED K te σ H (.list ds) := fun H1 e Q q => h H1 e Q fun p xs H2 _ e2 h2 hd => q _ H2 e2 (.lst (.inl (.inl h2)) hd)
theorem EL.is (h : EL K te σ H ds) (e : ds = es) : EL K te σ H es := e ▸ h
theorem el_lst (h : EDs K tl σ H ds) (hz : ds.length ≤ 100000) : EL K (tLst tl) σ H ds := fun H1 e Q q =>
  h H1 e _ fun xs H2 e2 px => ⟨by rw [px.length]; exact sz_of hz, fun p hp => q p xs _ (fresh_back e2 hp) (e2.trans (Ex.new hp)) upd_same (px.ex (Ex.new hp))⟩
theorem el_lc {α : Type} {xs : List α} {enc : α → PyData} {vs : List Nat} {j : Nat} {f : α → Bool} {w : α → PyData} (hi : ∀ H1, Ex H H1 → EI K wi σ H1 Ex (xs.map enc)) (hz : xs.length ≤ 40000) (hs : ∀ d ∈ xs, f d = true → stay (w d) = true)
    (hw : ∀ x, wipe ((wipe σ vs).set j (some x)) vs = wipe σ vs)
    (ht : ∀ d x H1, d ∈ xs → Ex H H1 → Dp K H1 x (enc d) → EvT t ((wipe σ vs).set j (some x)) H1 (f d))
    (he : ∀ d x H1, d ∈ xs → Ex H H1 → Dp K H1 x (enc d) → f d = true → ED K te ((wipe σ vs).set j (some x)) H1 (w d)) :
    EL K (tLc wi (gName j) t te vs) σ H ((xs.filter f).map w) := fun H0 e Q q => hi H0 e _ fun J H1 e1 wk Dl hD =>
  lc_it wk (Cd K H1 f w xs Dl) ⟨hD, Ex.new hD, [], upd_same, .nil⟩ (fun i H' _ p => p.2.1) (fun i x H' H'' hi' p y => by
    obtain ⟨ey, d', hd', px⟩ := y
    obtain ⟨d, hd, rfl⟩ := map_get hd'
    obtain ⟨p1, p2, acc, p3, p4⟩ := p
    have em : Ex H H'' := e.trans (e1.trans (p2.trans ey))
    exact ⟨hw x, cd_turn ⟨p1, p2.trans ey, acc, ey _ _ p3, p4.ex ey⟩ hd hz hs (ht d x H'' (List.mem_of_getElem? hd) em px) (fun hf => he d x H'' (List.mem_of_getElem? hd) em px hf)⟩)
    (fun H' p => by
      obtain ⟨p1, p2, acc, p3, p4⟩ := p
      rw [List.length_map, List.take_length] at p4
      exact q _ acc H' (fresh_back e1 p1) (e1.trans p2) p3 p4)
theorem el_lcY {α : Type} {xs : List α} {enc : α → PyData} {vs : List Nat} {j : Nat} {w : α → PyData} (hi : ∀ H1, Ex H H1 → EI K wi σ H1 Ex (xs.map enc)) (hz : xs.length ≤ 40000) (hs : ∀ d ∈ xs, stay (w d) = true)
    (hw : ∀ x, wipe ((wipe σ vs).set j (some x)) vs = wipe σ vs)
    (he : ∀ d x H1, d ∈ xs → Ex H H1 → Dp K H1 x (enc d) → ED K te ((wipe σ vs).set j (some x)) H1 (w d)) :
    EL K (tLc wi (gName j) tYes te vs) σ H (xs.map w) := by
  have h := el_lc (t := tYes) (f := fun _ => true) hi hz (fun d hd _ => hs d hd) hw (fun d x H1 _ _ _ => et_yes) (fun d x H1 a b c _ => he d x H1 a b c)
  rw [filter_yes] at h
  exact h
theorem el_lcp {α : Type} {xs : List α} {e1 e2 : α → PyData} {vs : List Nat} {j k : Nat} {f : α → Bool} {w : α → PyData} (hi : ∀ H1, Ex H H1 → EI K wi σ H1 Ex (xs.map fun p => .tuple [e1 p, e2 p])) (hz : xs.length ≤ 40000) (hs : ∀ p ∈ xs, f p = true → stay (w p) = true)
    (hw : ∀ x y, wipe (((wipe σ vs).set j (some x)).set k (some y)) vs = wipe σ vs)
    (ht : ∀ p x y H1, p ∈ xs → Ex H H1 → Dp K H1 x (e1 p) → Dp K H1 y (e2 p) → EvT t (((wipe σ vs).set j (some x)).set k (some y)) H1 (f p))
    (he : ∀ p x y H1, p ∈ xs → Ex H H1 → Dp K H1 x (e1 p) → Dp K H1 y (e2 p) → f p = true → ED K te (((wipe σ vs).set j (some x)).set k (some y)) H1 (w p)) :
    EL K (tLc wi (gTup K 2 (gCons (gName j) (gCons (gName k) gNil))) t te vs) σ H ((xs.filter f).map w) := fun H0 e Q q => hi H0 e _ fun J H1 e1 wk Dl hD =>
  lc_it wk (Cd K H1 f w xs Dl) ⟨hD, Ex.new hD, [], upd_same, .nil⟩ (fun i H' _ p => p.2.1) (fun i x H' H'' hi' p y => by
    obtain ⟨ey, d', hd', px⟩ := y
    obtain ⟨d, hd, rfl⟩ := map_get hd'
    obtain ⟨p1, p2, acc, p3, p4⟩ := p
    have em : Ex H H'' := e.trans (e1.trans (p2.trans ey))
    have hm := List.mem_of_getElem? hd
    exact eg_pair px fun u u' pu pu' => ⟨hw u u', cd_turn ⟨p1, p2.trans ey, acc, ey _ _ p3, p4.ex ey⟩ hd hz hs (ht d u u' H'' hm em pu pu') (fun hf => he d u u' H'' hm em pu pu' hf)⟩)
    (fun H' p => by
      obtain ⟨p1, p2, acc, p3, p4⟩ := p
      rw [List.length_map, List.take_length] at p4
      exact q _ acc H' (fresh_back e1 p1) (e1.trans p2) p3 p4)
/-! ### built-ins that make lists -/
def RCL (K : PySem.W.Frag) (r : List V → Hp → VK → Prop) (ds : List PyData) (es : List PyData) : Prop := ∀ H vs, DpAll K H vs ds → ∀ Q : VK, (∀ p xs H2, H p = none → Ex H H2 → H2 p = some (.lst xs) → DpAll K H2 xs es → Q (.ref p) H2) → r vs H Q
theorem el_cb {r : List V → Hp → VK → Prop} (h : EDs K tl σ H ds) (hr : RCL K r ds es) : EL K (tCB r tl) σ H es := fun H1 e Q q =>
  h H1 e _ fun xs H2 e2 px => hr H2 xs px Q fun p ys H3 hp e3 h3 d3 => q p ys H3 (fresh_back e2 hp) (e2.trans e3) h3 d3
theorem rcl_listL : RCL K (rListOf K) [.list ds] ds := fun H vs p Q q => by
  obtain ⟨x, rfl, px⟩ := dpa1 p
  obtain ⟨pa, xs, rfl, h1, h2⟩ := dp_lst px
  exact ⟨pa, xs, rfl, .inl h1, fun l hl => q l xs _ hl (Ex.new hl) upd_same (h2.ex (Ex.new hl))⟩
theorem rcl_listT : RCL K (rListOf K) [.tuple ds] ds := fun H vs p Q q => by
  obtain ⟨x, rfl, px⟩ := dpa1 p
  obtain ⟨pa, xs, rfl, h1, h2⟩ := dp_tup px
  exact ⟨pa, xs, rfl, .inr h1, fun l hl => q l xs _ hl (Ex.new hl) upd_same (h2.ex (Ex.new hl))⟩
/-- ints in order -/
def srtI (ns : List Int) : List Int := ns.mergeSort (fun a b => decide (a ≤ b))
theorem srtI_perm (ns : List Int) : (srtI ns).Perm ns := List.mergeSort_perm ns _
theorem srtI_le (ns : List Int) : (srtI ns).Pairwise (· ≤ ·) := by
  have := List.pairwise_mergeSort (le := fun a b : Int => decide (a ≤ b)) (fun a b c h1 h2 => by simp at *; omega) (fun a b => by simp; omega) ns
  exact this.imp fun h => by simpa using h
theorem perm_le_eq : ∀ {xs ys : List Int}, xs.Perm ys → xs.Pairwise (· ≤ ·) → ys.Pairwise (· ≤ ·) → xs = ys := fun h1 h2 h3 =>
  h1.eq_of_pairwise (le := (· ≤ ·)) (fun a b _ _ h h' => Int.le_antisymm h h') h2 h3
theorem rcl_sorted {ns : List Int} : RCL K (rSortedI K) [.list (ns.map PyData.int)] ((srtI ns).map PyData.int) := fun H vs p Q q => by
  obtain ⟨x, rfl, px⟩ := dpa1 p
  obtain ⟨pa, xs, rfl, h1, h2⟩ := dp_lst px
  cases dpa_ints h2
  refine ⟨pa, ns, rfl, h1, fun ns' l hp hs hl => ?_⟩
  have : ns' = srtI ns := perm_le_eq (hp.trans (srtI_perm ns).symm) hs (srtI_le ns)
  subst this
  exact q l _ _ hl (Ex.new hl) upd_same (ints_dpa _)
/-! ### lists that are written -/
/-- the list at l holds the data ds, may be written -/
def ML (K : PySem.W.Frag) (H : Hp) (l : Addr) (ds : List PyData) : Prop := ∃ xs, H l = some (.lst xs) ∧ DpAll K H xs ds
theorem ML.ex (h : ML K H l ds) (e : Ex H H') : ML K H' l ds := let ⟨xs, h1, h2⟩ := h; ⟨xs, e _ _ h1, h2.ex e⟩
theorem ML.dp (h : ML K H l ds) : Dp K H (.ref l) (.list ds) := let ⟨xs, h1, h2⟩ := h; .lst (.inl (.inl h1)) h2
theorem ML.ed (h : ML K H l ds) {i : Nat} (hs : σ[i]? = some (some (.ref l))) : ED K (tVar i) σ H (.list ds) := ed_var hs h.dp
/-- behind what evaluates, the list at l is another -/
def Step (l : Addr) (H H2 : Hp) : Prop := ∃ H1 xs ys, Ex H H1 ∧ H1 l = some (.lst xs) ∧ H2 = upd H1 l (.lst ys)
theorem Step.ex0 (s : Step l H H2) (e : Ex H0 H) (hn : H0 l = none) : Ex H0 H2 := by
  obtain ⟨H1, xs, ys, e1, h1, rfl⟩ := s
  exact Ex.mut (e.trans e1) hn
theorem Step.tk (s : Step l H H2) : TK H H2 := by
  obtain ⟨H1, xs, ys, e1, h1, rfl⟩ := s
  exact (TK.of_ex e1).trans (TK.upd_lst h1)
theorem Step.ml (s : Step l H H2) (hne : l' ≠ l) (h : ML K H l' ds) (hs : stayAll ds = true) : ML K H2 l' ds := by
  have tk := s.tk
  obtain ⟨H1, xs, ys, e1, h1, rfl⟩ := s
  obtain ⟨zs, h2, h3⟩ := h
  exact ⟨zs, by rw [upd_ne hne]; exact e1 _ _ h2, dpa_tk tk _ _ hs h3⟩
theorem Step.ex (s : Step l H H1) (e : Ex H1 H2) : ∃ H3, Step l H H3 ∧ Ex H3 H2 := ⟨H1, s, e⟩
theorem ML.ne {l2 : Addr} (h : ML K H l ds) (h2 : H l2 = none) : l ≠ l2 := by
  rintro rfl
  obtain ⟨xs, a, _⟩ := h
  rw [h2] at a; cases a
theorem stayAll_app {xs ys : List PyData} (h : stayAll xs = true) (h' : stayAll ys = true) : stayAll (xs ++ ys) = true := stayAll_iff.mpr fun d hd => by
  rcases List.mem_append.mp hd with q | q
  · exact stayAll_iff.mp h d q
  · exact stayAll_iff.mp h' d q
theorem stayAll_map {α : Type} {f : α → PyData} {xs : List α} (h : ∀ a ∈ xs, stay (f a) = true) : stayAll (xs.map f) = true := stayAll_iff.mpr fun d hd => by
  obtain ⟨a, ha, rfl⟩ := List.mem_map.mp hd
  exact h a ha
/-- xs.append(e) -/
theorem s_appD {i : Nat} (hl : ML K H l ds) (hi : σ[i]? = some (some (.ref l))) (hs : stayAll ds = true) (h : ED K te σ H d) (hd : stay d = true) (hz : ds.length < 100000) (k : ∀ H2, Step l H H2 → ML K H2 l (ds ++ [d]) → D.nx σ H2) :
    tDrop (tBM K "list" rAppend (tVar i) (tCons te tNil)) D σ H := by
  obtain ⟨xs, h1, h2⟩ := hl
  refine ⟨_, hi, Or.inl ⟨rfl, xs, sq_of h1⟩, h H (Ex.refl _) _ fun v H2 e2 p => ?_⟩
  refine ⟨l, xs, v, rfl, rfl, e2 _ _ h1, by rw [h2.length]; exact sz_lt hz, ?_⟩
  have st : Step l H (upd H2 l (.lst (xs ++ [v]))) := ⟨H2, xs, _, e2, e2 _ _ h1, rfl⟩
  exact k _ st ⟨_, upd_same, (dpa_tk st.tk _ _ hs h2).app (.cons (dp_tk (TK.upd_lst (e2 _ _ h1)) _ _ hd p) .nil)⟩
theorem q_appD {i : Nat} (hl : ML K H l ds) (hi : σ[i]? = some (some (.ref l))) (hs : stayAll ds = true) (h : ED K te σ H d) (hd : stay d = true) (hz : ds.length < 100000) (k : ∀ H2, Step l H H2 → ML K H2 l (ds ++ [d]) → tz D σ H2) :
    tSeq (tDrop (tBM K "list" rAppend (tVar i) (tCons te tNil))) tz D σ H := s_appD (D := { D with nx := tz D }) hl hi hs h hd hz k
/-- xs.extend(ys) -/
theorem s_extD {i : Nat} (hl : ML K H l ds) (hi : σ[i]? = some (some (.ref l))) (hs : stayAll ds = true) (h : ∀ Q : VK, (∀ p xs H2, Ex H H2 → H2 p = some (.lst xs) → DpAll K H2 xs es → Q (.ref p) H2) → te σ H Q) (hd : stayAll es = true) (hz : ds.length + es.length ≤ 100000) (k : ∀ H2, Step l H H2 → ML K H2 l (ds ++ es) → D.nx σ H2) :
    tDrop (tBM K "list" rExtend (tVar i) (tCons te tNil)) D σ H := by
  obtain ⟨xs, h1, h2⟩ := hl
  refine ⟨_, hi, Or.inl ⟨rfl, xs, sq_of h1⟩, h _ fun p zs H2 e2 hp pd => ?_⟩
  refine ⟨l, p, xs, zs, rfl, rfl, e2 _ _ h1, hp, by rw [h2.length, pd.length]; exact sz_of hz, ?_⟩
  have st : Step l H (upd H2 l (.lst (xs ++ zs))) := ⟨H2, xs, _, e2, e2 _ _ h1, rfl⟩
  exact k _ st ⟨_, upd_same, (dpa_tk st.tk _ _ hs h2).app (dpa_tk (TK.upd_lst (e2 _ _ h1)) _ _ hd pd)⟩
theorem EL.src (h : EL K te σ H es) : ∀ Q : VK, (∀ p xs H2, Ex H H2 → H2 p = some (.lst xs) → DpAll K H2 xs es → Q (.ref p) H2) → te σ H Q := fun Q q => h H (Ex.refl _) Q fun p xs H2 _ e2 h2 d2 => q p xs H2 e2 h2 d2
theorem ML.src (h : ML K H l es) {i : Nat} (hi : σ[i]? = some (some (.ref l))) : ∀ Q : VK, (∀ p xs H2, Ex H H2 → H2 p = some (.lst xs) → DpAll K H2 xs es → Q (.ref p) H2) → tVar i σ H Q := fun Q q => by
  obtain ⟨xs, h1, h2⟩ := h
  exact ⟨_, hi, q l xs H (Ex.refl _) h1 h2⟩
theorem q_extD {i : Nat} (hl : ML K H l ds) (hi : σ[i]? = some (some (.ref l))) (hs : stayAll ds = true) (h : ∀ Q : VK, (∀ p xs H2, Ex H H2 → H2 p = some (.lst xs) → DpAll K H2 xs es → Q (.ref p) H2) → te σ H Q) (hd : stayAll es = true) (hz : ds.length + es.length ≤ 100000) (k : ∀ H2, Step l H H2 → ML K H2 l (ds ++ es) → tz D σ H2) :
    tSeq (tDrop (tBM K "list" rExtend (tVar i) (tCons te tNil))) tz D σ H := s_extD (D := { D with nx := tz D }) hl hi hs h hd hz k
theorem DpAll.dropLast : ∀ {xs : List V} {ds : List PyData}, DpAll K H xs ds → DpAll K H xs.dropLast ds.dropLast
  | _, _, .nil => .nil
  | _, _, .cons r .nil => .nil
  | _, _, .cons r (.cons r2 t) => .cons r (DpAll.dropLast (.cons r2 t))
/-- j = xs.pop() -/
theorem q_popD {i j : Nat} (hl : ML K H l (ds ++ [d])) (hi : σ[i]? = some (some (.ref l))) (hs : stayAll ds = true) (hd : stay d = true) (k : ∀ v H2, Step l H H2 → ML K H2 l ds → Dp K H2 v d → tz D (σ.set j (some v)) H2) :
    tSeq (tAsg (tBM0 K "list" rPop (tVar i)) (gName j)) tz D σ H := by
  obtain ⟨xs, h1, h2⟩ := hl
  have hlen := h2.length
  rw [List.length_append, List.length_singleton] at hlen
  obtain ⟨v, hv, hp⟩ := h2.getD (i := ds.length) (d := d) (by simp)
  have st : Step l H (upd H l (.lst xs.dropLast)) := ⟨H, xs, _, Ex.refl _, h1, rfl⟩
  refine ⟨_, hi, Or.inl ⟨rfl, xs, sq_of h1⟩, l, xs, v, rfl, rfl, h1, by rw [hlen, Nat.add_sub_cancel]; exact hv, ?_⟩
  refine k v _ st ⟨_, upd_same, ?_⟩ (dp_tk st.tk _ _ hd hp)
  have := DpAll.dropLast h2
  rw [List.dropLast_concat] at this
  exact dpa_tk st.tk _ _ hs this
/-! ### a new list to a name -/
theorem q_asgE {j : Nat} (h : EL K te σ H ds) (k : ∀ l H1, Ex H H1 → H l = none → ML K H1 l ds → tz D (σ.set j (some (.ref l))) H1) : tSeq (tAsg te (gName j)) tz D σ H := h H (Ex.refl _) _ fun p xs H2 hp e2 h2 d2 => k p H2 e2 hp ⟨xs, h2, d2⟩
theorem s_asgE {j : Nat} (h : EL K te σ H ds) (k : ∀ l H1, Ex H H1 → H l = none → ML K H1 l ds → D.nx (σ.set j (some (.ref l))) H1) : tAsg te (gName j) D σ H := h H (Ex.refl _) _ fun p xs H2 hp e2 h2 d2 => k p H2 e2 hp ⟨xs, h2, d2⟩
/-! ### naturals -/
abbrev nD (i : Nat) : PyData := .int (i : Int)
theorem nD_map (ns : List Nat) : ns.map nD = (ns.map fun (i : Nat) => (i : Int)).map PyData.int := by rw [List.map_map]; rfl
theorem mem_nats {n : Nat} {ns : List Nat} : ((n : Int) ∈ ns.map fun (i : Nat) => (i : Int)) ↔ n ∈ ns := by
  rw [List.mem_map]
  constructor
  · rintro ⟨m, h, e⟩
    have : m = n := by omega
    exact this ▸ h
  · exact fun h => ⟨n, h, rfl⟩
theorem rd_inLN {n : Nat} {ns : List Nat} : RD K (rIn K false) (nD n) (.list (ns.map nD)) (.bool (decide (n ∈ ns))) := by
  have := rd_inL (K := K) (n := (n : Int)) (ns := ns.map fun (i : Nat) => (i : Int))
  rw [← nD_map] at this
  have e : decide ((n : Int) ∈ ns.map fun (i : Nat) => (i : Int)) = decide (n ∈ ns) := by rw [decide_eq_decide]; exact mem_nats
  rw [e] at this
  exact this
theorem rd_niLN {n : Nat} {ns : List Nat} : RD K (rIn K true) (nD n) (.list (ns.map nD)) (.bool (!decide (n ∈ ns))) := by
  have := rd_niL (K := K) (n := (n : Int)) (ns := ns.map fun (i : Nat) => (i : Int))
  rw [← nD_map] at this
  have e : decide ((n : Int) ∈ ns.map fun (i : Nat) => (i : Int)) = decide (n ∈ ns) := by rw [decide_eq_decide]; exact mem_nats
  rw [e] at this
  exact this
theorem rd_inTN {n : Nat} {ns : List Nat} : RD K (rIn K false) (nD n) (.tuple (ns.map nD)) (.bool (decide (n ∈ ns))) := by
  have := rd_inT (K := K) (n := (n : Int)) (ns := ns.map fun (i : Nat) => (i : Int))
  rw [← nD_map] at this
  have e : decide ((n : Int) ∈ ns.map fun (i : Nat) => (i : Int)) = decide (n ∈ ns) := by rw [decide_eq_decide]; exact mem_nats
  rw [e] at this
  exact this
theorem rd_niTN {n : Nat} {ns : List Nat} : RD K (rIn K true) (nD n) (.tuple (ns.map nD)) (.bool (!decide (n ∈ ns))) := by
  have := rd_niT (K := K) (n := (n : Int)) (ns := ns.map fun (i : Nat) => (i : Int))
  rw [← nD_map] at this
  have e : decide ((n : Int) ∈ ns.map fun (i : Nat) => (i : Int)) = decide (n ∈ ns) := by rw [decide_eq_decide]; exact mem_nats
  rw [e] at this
  exact this
theorem stay_nats (ns : List Nat) : stayAll (ns.map nD) = true := stayAll_map fun _ _ => rfl
/-- naturals in order -/
def srtN (ns : List Nat) : List Nat := (srtI (ns.map fun (i : Nat) => (i : Int))).map Int.toNat
theorem srtN_int (ns : List Nat) : (srtN ns).map nD = (srtI (ns.map fun (i : Nat) => (i : Int))).map PyData.int := by
  unfold srtN
  rw [List.map_map]
  refine List.map_congr_left fun i hi => ?_
  have : i ∈ ns.map fun (i : Nat) => (i : Int) := (srtI_perm _).mem_iff.mp hi
  obtain ⟨m, _, rfl⟩ := List.mem_map.mp this
  rfl
theorem srtN_perm (ns : List Nat) : (srtN ns).Perm ns := by
  have h := (srtI_perm (ns.map fun (i : Nat) => (i : Int))).map Int.toNat
  rw [List.map_map] at h
  have : (ns.map (Int.toNat ∘ fun (i : Nat) => (i : Int))) = ns := by
    have e : (Int.toNat ∘ fun (i : Nat) => (i : Int)) = id := funext fun i => Int.toNat_natCast i
    rw [e, List.map_id]
  rw [this] at h
  exact h
theorem rcl_sortedN {ns : List Nat} : RCL K (rSortedI K) [.list (ns.map nD)] ((srtN ns).map nD) := by
  rw [nD_map, srtN_int]
  exact rcl_sorted
/-! ### promises that tell only some of the answer -/
def RelSp (K : PySem.W.Frag) {ι : Type} (args : ι → List PyData) (Pre : ι → Prop) (Post : ι → PyData → Prop) : Sp := fun vs H Q _ => ∃ i, DpAll K H vs (args i) ∧ Pre i ∧ ∀ d v H', Post i d → Ex H H' → Dp K H' v d → Q v H'
/-- te gives some data that answer Pd -/
def EQ (K : PySem.W.Frag) (te : TE) (σ : L2.St) (H : Hp) (Pd : PyData → Prop) : Prop := ∀ H1, Ex H H1 → ∀ Q : VK, (∀ d v H2, Pd d → Ex H1 H2 → Dp K H2 v d → Q v H2) → te σ H1 Q
theorem eq_call {ι : Type} {args : ι → List PyData} {Pre : ι → Prop} {Post : ι → PyData → Prop} {E : XK} (i : ι) (h : EDs K tl σ H (args i)) (hp : Pre i) : EQ K (tCall (RelSp K args Pre Post) [] E tl) σ H (Post i) := fun H1 e Q q =>
  h H1 e _ fun xs H2 e2 px => ⟨i, by rw [List.append_nil]; exact px, hp, fun d z H3 hd e3 pz => q d z H3 hd (e2.trans e3) pz⟩
variable {Pd : PyData → Prop}
theorem q_asgQ {j : Nat} (h : EQ K te σ H Pd) (k : ∀ d v H1, Pd d → Ex H H1 → Dp K H1 v d → tz D (σ.set j (some v)) H1) : tSeq (tAsg te (gName j)) tz D σ H := h H (Ex.refl _) _ fun d v H1 hd e p => k d v H1 hd e p
theorem s_retQ (h : EQ K te σ H Pd) (k : ∀ d v H1, Pd d → Ex H H1 → Dp K H1 v d → D.rt v H1) : tRet te D σ H := h H (Ex.refl _) _ fun d v H1 hd e p => k d v H1 hd e p
theorem s_appQ {i : Nat} (hl : ML K H l ds) (hi : σ[i]? = some (some (.ref l))) (hs : stayAll ds = true) (h : EQ K te σ H Pd) (hd : ∀ d, Pd d → stay d = true) (hz : ds.length < 100000) (k : ∀ d H2, Pd d → Step l H H2 → ML K H2 l (ds ++ [d]) → D.nx σ H2) :
    tDrop (tBM K "list" rAppend (tVar i) (tCons te tNil)) D σ H := by
  obtain ⟨xs, h1, h2⟩ := hl
  refine ⟨_, hi, Or.inl ⟨rfl, xs, sq_of h1⟩, h H (Ex.refl _) _ fun d v H2 hq e2 p => ?_⟩
  refine ⟨l, xs, v, rfl, rfl, e2 _ _ h1, by rw [h2.length]; exact sz_lt hz, ?_⟩
  have st : Step l H (upd H2 l (.lst (xs ++ [v]))) := ⟨H2, xs, _, e2, e2 _ _ h1, rfl⟩
  exact k d _ hq st ⟨_, upd_same, (dpa_tk st.tk _ _ hs h2).app (.cons (dp_tk (TK.upd_lst (e2 _ _ h1)) _ _ (hd d hq) p) .nil)⟩
end
end BB
/-! K7: comprehensions with two fors. -/
namespace BB
open PySem L2 Evl
section
variable {K : PySem.W.Frag} {σ σ2 : L2.St} {H H' : Hp} {te : TE} {t : TT} {wi wi1 : TI} {g : TG}
def Cg (K : PySem.W.Frag) (H : Hp) (Dl : Addr) (ds : List PyData) (H' : Hp) : Prop := H Dl = none ∧ Ex H H' ∧ ∃ acc, H' Dl = some (.lst acc) ∧ DpAll K H' acc ds
/-- .. with tuples kept -/
theorem cg_turn_tk {Dl : Addr} {ds : List PyData} {b : Bool} {d : PyData} {H4 : Hp} (p : Cg K H Dl ds H') (tk : TK H4 H') (hz : ds.length ≤ 40000) (hs : stayAll ds = true) (ht : EvT t σ2 H' b) (hd : b = true → stay d = true) (he : b = true → ED K te σ2 H' d) {N : Hp → Prop}
    (h1 : b = true → ∀ H2, TK H4 H2 → Cg K H Dl (ds ++ [d]) H2 → N H2) (h2 : b = false → ∀ H2, TK H4 H2 → Cg K H Dl ds H2 → N H2) :
    t σ2 H' fun b H3 => if b = true then te σ2 H3 fun y H4 => ∃ acc, H4 Dl = some (.lst acc) ∧ acc.length < sizeLine ∧ N (upd H4 Dl (.lst (acc ++ [y]))) else N H3 := by
  obtain ⟨p1, p2, acc, p3, p4⟩ := p
  refine ht H' (Ex.refl _) _ fun H3 e3 => ?_
  cases b with
  | true =>
    show te σ2 H3 fun y H4 => ∃ acc, H4 Dl = some (.lst acc) ∧ acc.length < sizeLine ∧ N (upd H4 Dl (.lst (acc ++ [y])))
    refine he rfl H3 e3 _ fun y H5 e4 py => ?_
    have hD : H5 Dl = some (.lst acc) := e4 _ _ (e3 _ _ p3)
    refine ⟨acc, hD, sz_lt (by rw [p4.length]; omega), h1 rfl _ (((tk.trans (TK.of_ex e3)).trans (TK.of_ex e4)).trans (TK.upd_lst hD)) ⟨p1, Ex.mut (p2.trans (e3.trans e4)) p1, acc ++ [y], upd_same, ?_⟩⟩
    exact DpAll.app (dpa_tk (TK.upd_lst hD) _ _ hs ((p4.ex e3).ex e4)) (.cons (dp_tk (TK.upd_lst hD) _ _ (hd rfl) py) .nil)
  | false =>
    exact h2 rfl H3 (tk.trans (TK.of_ex e3)) ⟨p1, p2.trans e3, acc, e3 _ _ p3, p4.ex e3⟩
/-- [elt for .. in xs for .. in ys(x) if ..] -/
theorem el_lc2 {α β : Type} {xs : List α} {enc : α → PyData} {ys : α → List β} {enc1 : α → β → PyData} {vs vs1 : List Nat} {j1 : Nat} {f : α → β → Bool} {w : α → β → PyData}
    (hi : ∀ H1, Ex H H1 → EI K wi σ H1 Ex (xs.map enc)) (hz : (xs.flatMap fun a => ((ys a).filter (f a)).map (w a)).length ≤ 40000) (hs : ∀ a ∈ xs, ∀ b ∈ ys a, f a b = true → stay (w a b) = true)
    (hg : ∀ a x H1, a ∈ xs → Ex H H1 → Dp K H1 x (enc a) → ∃ σ2, (∀ Q : L2.St → Hp → Prop, Q σ2 H1 → g x (wipe σ vs) H1 Q) ∧ wipe σ2 vs = wipe σ vs ∧
      (∀ H2, Ex H H2 → TK H1 H2 → EI K wi1 σ2 H2 TK ((ys a).map (enc1 a))) ∧ (∀ x, wipe ((wipe σ2 vs1).set j1 (some x)) vs1 = wipe σ2 vs1) ∧
      (∀ b y H2, b ∈ ys a → Ex H H2 → TK H1 H2 → Dp K H2 y (enc1 a b) → EvT t ((wipe σ2 vs1).set j1 (some y)) H2 (f a b)) ∧
      (∀ b y H2, b ∈ ys a → Ex H H2 → TK H1 H2 → Dp K H2 y (enc1 a b) → f a b = true → ED K te ((wipe σ2 vs1).set j1 (some y)) H2 (w a b))) :
    EL K (tLc2 wi g tYes wi1 (gName j1) t te vs vs1) σ H (xs.flatMap fun a => ((ys a).filter (f a)).map (w a)) := fun H0 e Q q => hi H0 e _ fun J H1 e1 wk Dl hD => by
  let G : α → List PyData := fun a => ((ys a).filter (f a)).map (w a)
  have hn : (xs.map enc).length = xs.length := List.length_map ..
  rw [hn] at wk
  have hst : ∀ l : List α, (∀ a ∈ l, a ∈ xs) → stayAll (l.flatMap G) = true := fun l hl => stayAll_iff.mpr fun d hd => by
    obtain ⟨a, ha, hd⟩ := List.mem_flatMap.mp hd
    obtain ⟨b, hb, rfl⟩ := List.mem_map.mp hd
    obtain ⟨hb1, hb2⟩ := List.mem_filter.mp hb
    exact hs a (hl a ha) b hb1 hb2
  have hlen : ∀ i (a : α) j, xs[i]? = some a → ((xs.take i).flatMap G ++ ((((ys a).take j).filter (f a)).map (w a))).length ≤ 40000 := fun i a j ha => by
    refine Nat.le_trans ?_ hz
    have e2 : xs = xs.take i ++ a :: xs.drop (i + 1) := by
      obtain ⟨hlt, hget⟩ := List.getElem?_eq_some_iff.mp ha
      rw [← hget, List.getElem_cons_drop, List.take_append_drop]
    have e3 : (xs.flatMap fun a => ((ys a).filter (f a)).map (w a)) = (xs.take i).flatMap G ++ (G a ++ (xs.drop (i + 1)).flatMap G) := by
      conv => lhs; rw [e2]
      rw [List.flatMap_append, List.flatMap_cons]
    rw [e3, List.length_append, List.length_append, List.length_append, List.length_map]
    have : ((((ys a).take j).filter (f a))).length ≤ (G a).length := by
      show _ ≤ (((ys a).filter (f a)).map (w a)).length
      rw [List.length_map]
      exact (List.Sublist.filter _ (List.take_sublist j (ys a))).length_le
    omega
  refine ⟨fun i m H' => m = xs.length - i ∧ i ≤ xs.length ∧ Cg K H1 Dl ((xs.take i).flatMap G) H', ⟨xs.length, by simp, Nat.zero_le _, hD, Ex.new hD, [], upd_same, .nil⟩, ?_⟩
  rintro i m H' ⟨rfl, hile, p⟩
  by_cases hlt : i < xs.length
  · refine .inr ⟨wk.goes i H' hlt p.2.1, fun H' => Cg K H1 Dl ((xs.take (i + 1)).flatMap G) H', fun H'' p' => ⟨xs.length - (i + 1), by omega, rfl, hlt, p'⟩, fun x H'' y => ?_⟩
    obtain ⟨ey, d', hd', px⟩ := wk.yields i H' x H'' hlt p.2.1 y
    obtain ⟨a, ha, rfl⟩ := map_get hd'
    have hm := List.mem_of_getElem? ha
    have p' : Cg K H1 Dl ((xs.take i).flatMap G) H'' := let ⟨p1, p2, acc, p3, p4⟩ := p; ⟨p1, p2.trans ey, acc, ey _ _ p3, p4.ex ey⟩
    obtain ⟨σ2, g1, g2, g3, g4, g5, g6⟩ := hg a x H'' hm (e.trans (e1.trans p'.2.1)) px
    refine g1 _ ⟨g2, ?_⟩
    refine et_yes (σ := σ2) (H := H'') H'' (Ex.refl _) _ fun H3 e3 => ?_
    show wi1 σ2 H3 _
    refine g3 H3 ((e.trans (e1.trans p'.2.1)).trans e3) (TK.of_ex e3) _ fun J1 H4 e4 wk1 => ?_
    have hn1 : ((ys a).map (enc1 a)).length = (ys a).length := List.length_map ..
    rw [hn1] at wk1
    have p4' : Cg K H1 Dl ((xs.take i).flatMap G) H4 := let ⟨p1, p2, acc, p3, p4⟩ := p'; ⟨p1, p2.trans (e3.trans e4), acc, e4 _ _ (e3 _ _ p3), (p4.ex e3).ex e4⟩
    refine ⟨fun j k H5 => k = (ys a).length - j ∧ j ≤ (ys a).length ∧ TK H4 H5 ∧ Cg K H1 Dl ((xs.take i).flatMap G ++ ((((ys a).take j).filter (f a)).map (w a))) H5, ⟨(ys a).length, by simp, Nat.zero_le _, fun _ _ h => h, by simpa using p4'⟩, ?_⟩
    rintro j k H5 ⟨rfl, hjle, tk, p5⟩
    by_cases hjt : j < (ys a).length
    · refine .inr ⟨wk1.goes j H5 hjt tk, fun H5 => TK H4 H5 ∧ Cg K H1 Dl ((xs.take i).flatMap G ++ ((((ys a).take (j + 1)).filter (f a)).map (w a))) H5, fun H6 p6 => ⟨(ys a).length - (j + 1), by omega, rfl, hjt, p6.1, p6.2⟩, fun y H6 yy => ?_⟩
      obtain ⟨ey1, d1, hd1, py⟩ := wk1.yields j H5 y H6 hjt tk yy
      obtain ⟨b, hb, rfl⟩ := map_get hd1
      have hbm := List.mem_of_getElem? hb
      have p6 : Cg K H1 Dl ((xs.take i).flatMap G ++ ((((ys a).take j).filter (f a)).map (w a))) H6 := let ⟨p1, p2, acc, p3, p4⟩ := p5; ⟨p1, p2.trans ey1, acc, ey1 _ _ p3, p4.ex ey1⟩
      have tk6 : TK H'' H6 := ((TK.of_ex (e3.trans e4)).trans tk).trans (TK.of_ex ey1)
      have em : Ex H H6 := e.trans (e1.trans p6.2.1)
      have eT : (ys a).take (j + 1) = (ys a).take j ++ [b] := take_succ_of hb
      refine ⟨g4 y, cg_turn_tk (H4 := H4) p6 (tk.trans (TK.of_ex ey1)) (hlen i a j ha) ?_ (g5 b y H6 hbm em tk6 py) (fun hf => hs a hm b hbm hf) (fun hf => g6 b y H6 hbm em tk6 py hf) (fun hf H7 tk7 p7 => ⟨tk7, ?_⟩) (fun hf H7 tk7 p7 => ⟨tk7, ?_⟩)⟩
      · refine stayAll_app (hst _ fun a h => List.mem_of_mem_take h) (stayAll_iff.mpr fun d hd => ?_)
        obtain ⟨b', hb', rfl⟩ := List.mem_map.mp hd
        obtain ⟨hb1, hb2⟩ := List.mem_filter.mp hb'
        exact hs a hm b' (List.mem_of_mem_take hb1) hb2
      · rw [eT, List.filter_append, List.map_append, ← List.append_assoc]
        have : [b].filter (f a) = [b] := by simp [hf]
        rw [this]
        exact p7
      · rw [eT, List.filter_append, List.map_append]
        have : [b].filter (f a) = [] := by simp [hf]
        rw [this, List.map_nil, List.append_nil]
        exact p7
    · have ej : j = (ys a).length := by omega
      subst ej
      rw [List.take_length] at p5
      refine .inl ⟨wk1.stops H5 tk, ?_⟩
      rw [take_succ_of ha, List.flatMap_append, List.flatMap_singleton]
      exact p5
  · have e5 : i = xs.length := by omega
    subst e5
    rw [List.take_length] at p
    obtain ⟨p1, p2, acc, p3, p4⟩ := p
    exact .inl ⟨wk.stops H' p2, q _ acc H' (fresh_back e1 p1) (e1.trans p2) p3 p4⟩
end
end BB
/-! M1: reaching within a group; a search from a place. -/
namespace BB
/-- x is reached from s through g -/
inductive Rch (nr : Nat → Nat → Bool) (g : List Nat) (s : Nat) : Nat → Prop
  | base : Rch nr g s s
  | step {y x : Nat} : Rch nr g s y → x ∈ g → nr y x = true → Rch nr g s x
section
variable {nr : Nat → Nat → Bool} {g : List Nat} {s : Nat}
theorem Rch.mono {g' : List Nat} (h : ∀ x ∈ g, x ∈ g') {x : Nat} (r : Rch nr g s x) : Rch nr g' s x := by
  induction r with
  | base => exact .base
  | step _ hx hn ih => exact .step ih (h _ hx) hn
theorem Rch.mem (hs : s ∈ g) {x : Nat} (r : Rch nr g s x) : x ∈ g := by
  cases r with
  | base => exact hs
  | step _ hx _ => exact hx
theorem Rch.trans {x y : Nat} (r : Rch nr g s x) (r2 : Rch nr g x y) : Rch nr g s y := by
  induction r2 with
  | base => exact r
  | step _ hx hn ih => exact .step ih hx hn
theorem Rch.symm (hsym : ∀ x y, nr x y = nr y x) (hs : s ∈ g) {x : Nat} (r : Rch nr g s x) : Rch nr g x s := by
  induction r with
  | base => exact .base
  | @step y x r hx hn ih => exact (Rch.step .base (r.mem hs) (by rw [hsym]; exact hn)).trans ih
/-- one piece: the first reaches all -/
def Hung (nr : Nat → Nat → Bool) (g : List Nat) : Prop := ∃ s r, g = s :: r ∧ ∀ x ∈ g, Rch nr g s x
/-- what a search has met, what it has yet to look at -/
structure Dfs (nr : Nat → Nat → Bool) (g : List Nat) (s : Nat) (met wait : List Nat) : Prop where
  start : s ∈ met
  reach : ∀ x ∈ met, Rch nr g s x
  sub : ∀ x ∈ wait, x ∈ met
  done : ∀ y ∈ met, y ∉ wait → ∀ x ∈ g, nr y x = true → x ∈ met
theorem Dfs.init : Dfs nr g s [s] [s] where
  start := by simp
  reach := fun x h => by rw [List.mem_singleton.mp h]; exact .base
  sub := fun x h => h
  done := fun y h h' => absurd h h'
def laterN (nr : Nat → Nat → Bool) (g met : List Nat) (here : Nat) : List Nat := g.filter fun o => !decide (o ∈ met) && nr here o
theorem Dfs.turn {met w : List Nat} {here : Nat} (d : Dfs nr g s met (w ++ [here])) : Dfs nr g s (met ++ laterN nr g met here) (w ++ laterN nr g met here) where
  start := List.mem_append_left _ d.start
  reach := fun x h => by
    rcases List.mem_append.mp h with h | h
    · exact d.reach x h
    · obtain ⟨h1, h2⟩ := List.mem_filter.mp h
      rw [Bool.and_eq_true] at h2
      exact .step (d.reach here (d.sub here (by simp))) h1 h2.2
  sub := fun x h => by
    rcases List.mem_append.mp h with h | h
    · exact List.mem_append_left _ (d.sub x (List.mem_append_left _ h))
    · exact List.mem_append_right _ h
  done := fun y h h' x hx hn => by
    by_cases hxm : x ∈ met
    · exact List.mem_append_left _ hxm
    · rcases List.mem_append.mp h with h | h
      · by_cases hyh : y = here
        · subst hyh
          exact List.mem_append_right _ (List.mem_filter.mpr ⟨hx, by rw [decide_eq_false hxm, hn]; rfl⟩)
        · refine absurd (d.done y h (fun q => ?_) x hx hn) hxm
          rcases List.mem_append.mp q with q | q
          · exact h' (List.mem_append_left _ q)
          · exact hyh (List.mem_singleton.mp q)
      · exact absurd (List.mem_append_right _ h) h'
def leftN (g met : List Nat) : Nat := (g.filter fun o => !decide (o ∈ met)).length
theorem left_turn {met : List Nat} {here : Nat} : leftN g (met ++ laterN nr g met here) + (laterN nr g met here).length = leftN g met := by
  unfold leftN
  have key : ∀ l : List Nat, (∀ x ∈ l, x ∈ g) → (l.filter fun o => !decide (o ∈ met ++ laterN nr g met here)).length + (l.filter fun o => !decide (o ∈ met) && nr here o).length = (l.filter fun o => !decide (o ∈ met)).length := by
    intro l
    induction l with
    | nil => intro _; rfl
    | cons x l ih =>
      intro hl
      have ih := ih fun y hy => hl y (List.mem_cons_of_mem _ hy)
      have hxg := hl x List.mem_cons_self
      by_cases hm : x ∈ met
      · have e1 : decide (x ∈ met ++ laterN nr g met here) = true := decide_eq_true (List.mem_append_left _ hm)
        simp only [List.filter_cons, e1, hm, decide_true, Bool.not_true, Bool.false_and]
        simpa using ih
      · by_cases hn : nr here x = true
        · have e1 : decide (x ∈ met ++ laterN nr g met here) = true := decide_eq_true (List.mem_append_right _ (List.mem_filter.mpr ⟨hxg, by rw [decide_eq_false hm, hn]; rfl⟩))
          simp only [List.filter_cons, e1, hm, decide_false, Bool.not_true, Bool.not_false, Bool.true_and, hn, if_true]
          simp only [List.length_cons]
          simp at ih ⊢
          omega
        · have e1 : decide (x ∈ met ++ laterN nr g met here) = false := decide_eq_false fun q => by
            rcases List.mem_append.mp q with q | q
            · exact hm q
            · have := (List.mem_filter.mp q).2
              rw [Bool.and_eq_true] at this
              exact hn this.2
          have hn' : nr here x = false := by simpa using hn
          simp only [List.filter_cons, e1, hm, decide_false, Bool.not_true, Bool.not_false, Bool.true_and, hn', if_true]
          simp only [List.length_cons]
          simp at ih ⊢
          omega
  exact key g fun x h => h
theorem Dfs.end' {met : List Nat} (d : Dfs nr g s met []) : ∀ x, x ∈ met ↔ Rch nr g s x := fun x => ⟨d.reach x, fun r => by
  induction r with
  | base => exact d.start
  | step _ hx hn ih => exact d.done _ ih (by simp) _ hx hn⟩
end
end BB
/-! D4: groups, lots. -/
namespace BB
open PySem L2 Evl
section
variable {P : Program} {w : World} {K : PySem.W.Frag} {mg : Str → Option Value} {base : Heap}
structure GrpOk (B : List (List Int)) (g : List Nat) : Prop where
  book : bookB B
  inn : ∀ x ∈ g, x < B.length
  few : g.length ≤ 1000
def argPW (i : List (List Int) × List Nat × Nat) : List PyData := [bookD i.1, natsD i.2.1, nD i.2.2]
theorem sc_piece_with : FnScope ["book", "group", "source", "met", "waiting", "here", "later", "other"] ["book", "group", "source"] (defScope st_piece_with) := ⟨rfl, rfl, rfl, by decide +kernel, rfl, by decide +kernel, by decide +kernel⟩
theorem ok_piece_with (T : Txt K mg) : FnOk P w K mg base CX0 3 T.d_piece_with.f T.d_piece_with.fd ["book", "group", "source"] (RelSp K argPW (fun i => GrpOk i.1 i.2.1 ∧ i.2.2 ∈ i.2.1) (fun i d => ∃ ms : List Nat, d = natsD ms ∧ ∀ x, x ∈ ms ↔ Rch (nearB i.1) i.2.1 i.2.2 x)) := by
  refine T.d_piece_with.F.ok sc_piece_with ?len (fun cdv A outer s H vs Q E hr h => ?_)
  case len =>
    rintro vs H Q E ⟨ds, h, _⟩
    exact h.length
  obtain ⟨⟨B, g, s0⟩, hA, ⟨hG, hs0⟩, k⟩ := h
  obtain ⟨v, u, w', rfl, p, q, r⟩ := dpa3 hA
  simp only at hs0 k
  refine ⟨_, (pss_cons (ps_set (i := 3) sc_piece_with.nd rfl (by first | exact Or.inl rfl | exact Or.inr rfl) (pe_lst (pa_cons (pv 2) pa_nil)))
      (pss_cons (ps_set (i := 4) sc_piece_with.nd rfl (by first | exact Or.inl rfl | exact Or.inr rfl) (pe_lst (pa_cons (pv 2) pa_nil)))
      (pss_cons (ps_while PassesOwn.never (pt_cmpR (neEK (K := K) hr) (pv 4) (pe_lst pa_nil) (nomark _))
      (pss_cons (ps_set (i := 5) sc_piece_with.nd rfl (by first | exact Or.inl rfl | exact Or.inr rfl) (pe_bm0 PySem.F.plainAttrs_list PySem.F.slot_list_pop PySem.F.type_list_pop mt_pop (pv 4)))
        (pss_cons (ps_setLc (i := 6) (own := [("other", 7)]) rfl sc_piece_with.nd rfl rfl (sw_true rfl rfl rfl (by decide +kernel)) (piTK (K := K) (pv 1)) (blkOk_by (own := [("other", 7)]) (N := ["book", "group", "source", "met", "waiting", "here", "later", "other"]) (sc := defScope st_piece_with) (by decide +kernel)) (fun _ _ _ _ _ => (pg_name (i := 7) sc_piece_with.nd rfl (by first | exact Or.inl rfl | exact Or.inr rfl))) (fun _ _ _ _ _ => pts_one (PW.pt (pw_and (pt_cmpR (niK (K := K)) (pv 7) (pv 3) (by rfl)) (pw_and1 (pt_val (pe_call (ok_are_neighbours T) (hr.mono (by decide)) (by rfl) T.d_are_neighbours.g T.d_are_neighbours.F.kp T.d_are_neighbours.b .nil pass0 (pa_cons (pv 0) (pa_cons (pv 5) (pa_cons (pv 7) pa_nil))))))))) (fun _ _ _ _ _ => (pv 7)))
        (pss_cons (ps_expr (pe_bm PySem.F.plainAttrs_list PySem.F.slot_list_extend PySem.F.type_list_extend mt_extend (pv 3) (pa_cons (pv 6) pa_nil)))
        (pss_one (ps_expr (pe_bm PySem.F.plainAttrs_list PySem.F.slot_list_extend PySem.F.type_list_extend mt_extend (pv 4) (pa_cons (pv 6) pa_nil))))))))
      (pss_one (ps_ret (pe_callTy (tupK (K := K)) (by rfl) T.b_tuple (by decide +kernel) (pa_cons (pe_callB (srtK (K := K)) (by rfl) T.b_sorted (by decide +kernel) (pa_cons (pv 3) pa_nil)) pa_nil))))))), ?_⟩
  refine q_asgE (el_lst (eds_cons (ed_var rfl r) eds_nil) (by show 1 ≤ 100000; decide)) fun lm H1 e1 hm m1 => ?_
  refine q_asgE (el_lst (eds_cons (ed_var rfl (r.ex e1)) eds_nil) (by show 1 ≤ 100000; decide)) fun lw H2 e2 hw m2 => ?_
  have hne : lm ≠ lw := m1.ne hw
  have hn2 : H lw = none := fresh_back e1 hw
  refine q_while (fun m σ' H' => ∃ (met wait : List Nat) (o5 o6 o7 : Option V), Ex H H' ∧ ML K H' lm (met.map nD) ∧ ML K H' lw (wait.map nD) ∧ Dfs (nearB B) g s0 met wait ∧ met.length + leftN g met ≤ 1 + g.length ∧ wait.length ≤ met.length ∧ m = leftN g met + wait.length ∧ σ' = [some v, some u, some w', some (.ref lm), some (.ref lw), o5, o6, o7]) (leftN g [s0] + 1)
    ⟨[s0], [s0], none, none, none, e1.trans e2, m1.ex e2, m2, .init, by have : leftN g [s0] ≤ g.length := List.length_filter_le _ _; simp; omega, Nat.le_refl _, rfl, rfl⟩ ?_
  rintro m σ' H' ⟨met, wait, o5, o6, o7, e, mm, mw, dfs, hb1, hb2, rfl, rfl⟩
  refine ⟨!(wait.map nD).isEmpty, et_test (ed_op (mw.ed rfl) (ed_lst (ds := []) eds_nil (by show 0 ≤ 100000; decide)) rd_neE), fun hx H3 e3 => ?_, fun hx H3 e3 => ?_⟩
  · have hwne : wait ≠ [] := by rintro rfl; simp at hx
    obtain ⟨w1, here, rfl⟩ : ∃ w1 here, wait = w1 ++ [here] := ⟨wait.dropLast, wait.getLast hwne, (List.dropLast_concat_getLast hwne).symm⟩
    have hhm : here ∈ met := dfs.sub here (by simp)
    have hhB : here < B.length := hG.inn here ((dfs.reach here hhm).mem hs0)
    refine ⟨_, fun σ2 H2 h => h, ?_⟩
    have mw3 := mw.ex e3
    rw [List.map_append] at mw3
    refine q_popD mw3 rfl (stay_nats _) rfl fun hv H4 st4 mw4 ph => ?_
    have e4 : Ex H H4 := st4.ex0 (e.trans e3) hn2
    have mm4 := st4.ml hne (mm.ex e3) (stay_nats _)
    refine q_asgE (el_lc (xs := g) (enc := nD) (f := fun o => !decide (o ∈ met) && nearB B here o) (w := nD) (fun H5 e5 => ei_tup (ed_var rfl ((q.ex e4).ex e5))) (by have : g.length ≤ 1000 := hG.few; omega) (fun _ _ _ => rfl) (fun _ => rfl)
      (fun o x H5 ho e5 px => et_and' (et_test (ed_op (ed_var rfl px) ((mm4.ex e5).ed rfl) rd_niLN)) fun _ => et_B (ed_call (eds_cons (ed_var rfl ((p.ex e4).ex e5)) (eds_cons (ed_var rfl (ph.ex e5)) (eds_cons (ed_var rfl px) eds_nil))) ⟨B, here, o, rfl, hG.book, hhB, hG.inn o ho, rfl⟩))
      (fun o x H5 ho e5 px _ => ed_var rfl px)) fun ll H5 e5 hll ml => ?_
    have hlm : ll ≠ lm := fun h => mm4.ne hll h.symm
    have hlw : ll ≠ lw := fun h => mw4.ne hll h.symm
    have hz : (laterN (nearB B) g met here).length ≤ g.length := List.length_filter_le _ _
    have hlt := left_turn (nr := nearB B) (g := g) (met := met) (here := here)
    have hfew : g.length ≤ 1000 := hG.few
    have ml' : ML K H5 ll ((laterN (nearB B) g met here).map nD) := ml
    refine q_extD (mm4.ex e5) rfl (stay_nats _) (ml'.src rfl) (stay_nats _) (by rw [List.length_map, List.length_map]; omega) fun H6 st6 mm6 => ?_
    have e6 : Ex H H6 := st6.ex0 (e4.trans e5) hm
    refine s_extD (st6.ml (Ne.symm hne) (mw4.ex e5) (stay_nats _)) rfl (stay_nats _) ((st6.ml hlm ml' (stay_nats _)).src rfl) (stay_nats _) (by rw [List.length_map, List.length_map]; simp at hb2; omega) fun H7 st7 mw7 => ?_
    have mm7 := st7.ml hne mm6 (by rw [← List.map_append]; exact stay_nats _)
    rw [← List.map_append] at mw7 mm7
    refine ⟨_, ?_, met ++ laterN (nearB B) g met here, w1 ++ laterN (nearB B) g met here, _, _, _, st7.ex0 e6 hn2, mm7, mw7, dfs.turn, ?_, ?_, rfl, rfl⟩
    · rw [List.length_append, List.length_append]
      simp only [List.length_singleton]
      omega
    · rw [List.length_append]; omega
    · simp only [List.length_append, List.length_singleton] at hb2 ⊢
      omega
  · have : wait = [] := by cases wait with
      | nil => rfl
      | cons _ _ => simp at hx
    subst this
    refine s_retD (ed_cb (eds_cons (EL.ed (el_cb (eds_cons ((mm.ex e3).ed rfl) eds_nil) rcl_sortedN)) eds_nil) rcd_tuple) fun z H4 e4 pz => ?_
    refine k _ z H4 ⟨srtN met, rfl, fun x => ?_⟩ ((e.trans e3).trans e4) pz
    exact (srtN_perm met).mem_iff.trans (dfs.end' x)
def argG (i : List (List Int) × List Nat) : List PyData := [bookD i.1, natsD i.2]
def grpsD (ps : List (List Nat)) : List PyData := ps.map natsD
theorem stay_grps (ps : List (List Nat)) : stayAll (grpsD ps) = true := stayAll_map fun a _ => stay_tupled _ (tupled_nats a)
theorem sc_pieces_of : FnScope ["book", "group", "found", "source", "piece"] ["book", "group"] (defScope st_pieces_of) := ⟨rfl, rfl, rfl, by decide +kernel, rfl, by decide +kernel, by decide +kernel⟩
theorem ok_pieces_of (T : Txt K mg) : FnOk P w K mg base CX0 4 T.d_pieces_of.f T.d_pieces_of.fd ["book", "group"] (RelSp K argG (fun i => GrpOk i.1 i.2) (fun i d => ∃ ps : List (List Nat), d = .tuple (grpsD ps) ∧ (ps.length = 1 ↔ Hung (nearB i.1) i.2))) := by
  refine T.d_pieces_of.F.ok sc_pieces_of ?len (fun cdv A outer s H vs Q E hr h => ?_)
  case len =>
    rintro vs H Q E ⟨ds, h, _⟩
    exact h.length
  obtain ⟨⟨B, g⟩, hA, hG, k⟩ := h
  obtain ⟨v, u, rfl, p, q⟩ := dpa2 hA
  simp only at hG k
  refine ⟨_, (pss_cons (ps_set (i := 2) sc_pieces_of.nd rfl (by first | exact Or.inl rfl | exact Or.inr rfl) (pe_lst pa_nil))
      (pss_cons (ps_for PassesOwn.never rfl (piTK (K := K) (pv 1)) (pg_name (i := 3) sc_pieces_of.nd rfl (by first | exact Or.inl rfl | exact Or.inr rfl))
      (pss_one (ps_if (pt_not (pt_val (pe_callB (anyK (K := K) rfl) (by rfl) T.b_any (by decide +kernel) (pa_cons (pe_lc (own := [("piece", 4)]) rfl sc_pieces_of.nd (piLK (K := K) (pv 2)) (blkOk_by (own := [("piece", 4)]) (N := ["book", "group", "found", "source", "piece"]) (sc := defScope st_pieces_of) (by decide +kernel)) (fun _ _ _ _ _ => (pg_name (i := 4) sc_pieces_of.nd rfl (by first | exact Or.inl rfl | exact Or.inr rfl))) (fun _ _ _ _ _ => pts_nil) (fun _ _ _ _ _ => (pe_cmpR (inK (K := K)) (pv 3) (pv 4) (by rfl)))) pa_nil))))
        (pss_one (ps_expr (pe_bm PySem.F.plainAttrs_list PySem.F.slot_list_append PySem.F.type_list_append mt_append (pv 2) (pa_cons (pe_call (ok_piece_with T) (hr.mono (by decide)) (by rfl) T.d_piece_with.g T.d_piece_with.F.kp T.d_piece_with.b .nil pass0 (pa_cons (pv 0) (pa_cons (pv 1) (pa_cons (pv 3) pa_nil)))) pa_nil))))
        pss_nil)))
      (pss_one (ps_ret (pe_callTy (tupK (K := K)) (by rfl) T.b_tuple (by decide +kernel) (pa_cons (pv 2) pa_nil)))))), ?_⟩
  refine q_asgE (K := K) (el_lst eds_nil (by show 0 ≤ 100000; decide)) fun lf H1 e1 hf m1 => ?_
  have hfew : g.length ≤ 1000 := hG.few
  refine q_forD (ei_tupK (ds := g.map nD) (ed_var rfl (q.ex e1)) (stay_nats g)) (fun H2 i σ' H' => Ex H H' ∧ TK H2 H' ∧ ∃ (ps : List (List Nat)) (o3 o4 : Option V), ML K H' lf (grpsD ps) ∧ ps.length ≤ i ∧ (i = 0 → ps = []) ∧ (∀ s0, i ≠ 0 → g[0]? = some s0 → ∃ P0 rest, ps = P0 :: rest ∧ (∀ x, x ∈ P0 ↔ Rch (nearB B) g s0 x) ∧ (rest = [] ↔ ∀ (m : Nat) y, m < i → g[m]? = some y → Rch (nearB B) g s0 y)) ∧ σ' = [some v, some u, some (.ref lf), o3, o4])
    (fun H2 e2 => ⟨e1.trans e2, fun _ _ h => h, [], none, none, m1.ex e2, Nat.le_refl _, fun _ => rfl, fun s0 h => absurd rfl h, rfl⟩) (fun H2 i σ' H' _ h => h.2.1) ?_ ?_
  · rintro H2 i d x σ' H' H'' e2 hd ⟨e, tk, ps, o3, o4, mf, hpl, hp0, hp1, rfl⟩ eH px
    obtain ⟨y, hy, rfl⟩ := map_get hd
    have hyg : y ∈ g := List.mem_of_getElem? hy
    have hig : i < g.length := (List.getElem?_eq_some_iff.mp hy).1
    show tIfS _ _ _ _ [some v, some u, some (.ref lf), some x, o4] H''
    refine s_ifD (et_not (et_B (ed_any (ed_lcY (xs := ps) (enc := natsD) (w := fun P => .bool (decide (y ∈ P))) (fun H3 e3 => ei_lst (((mf.ex eH).ex e3).ed rfl)) (by omega) (fun _ _ => rfl) (fun _ => rfl) (fun P z H3 _ e3 pz => ed_op (ed_var rfl (px.ex e3)) (ed_var rfl pz) rd_inTN))))) (fun hx H3 e3 => ?_) (fun hx H3 e3 => ?_)
    · have hno : ∀ P ∈ ps, y ∉ P := fun P hP hyP => by
        have : (ps.any fun P => decide (y ∈ P)) = true := List.any_eq_true.mpr ⟨P, hP, decide_eq_true hyP⟩
        rw [this] at hx; cases hx
      have em := (e.trans eH).trans e3
      refine s_appQ ((mf.ex eH).ex e3) rfl (stay_grps ps) (eq_call (B, g, y) (eds_cons (ed_var rfl (p.ex em)) (eds_cons (ed_var rfl (q.ex em)) (eds_cons (ed_var rfl (px.ex e3)) eds_nil))) ⟨hG, hyg⟩) (fun d hd => by obtain ⟨ms, rfl, _⟩ := hd; exact stay_tupled _ (tupled_nats ms)) (by show (ps.map natsD).length < 100000; rw [List.length_map]; omega) fun d H4 hd st mf4 => ?_
      obtain ⟨ms, rfl, hms⟩ := hd
      refine ⟨st.ex0 em hf, ((tk.trans (TK.of_ex eH)).trans (TK.of_ex e3)).trans st.tk, ps ++ [ms], _, _, ?_, by rw [List.length_append]; simp; omega, fun h => absurd h (Nat.succ_ne_zero i), fun s0 _ hs0 => ?_, rfl⟩
      · show ML K H4 lf ((ps ++ [ms]).map natsD)
        rw [List.map_append]; exact mf4
      · by_cases hi0 : i = 0
        · subst hi0
          have : ps = [] := hp0 rfl
          subst this
          rw [hs0] at hy; cases hy
          refine ⟨ms, [], rfl, hms, fun _ m y hm hy' => ?_, fun _ => rfl⟩
          have : m = 0 := by omega
          subst this
          rw [hs0] at hy'; cases hy'
          exact .base
        · obtain ⟨P0, rest, rfl, h1, h2⟩ := hp1 s0 hi0 hs0
          refine ⟨P0, rest ++ [ms], rfl, h1, fun h => absurd h (by simp), fun h => ?_⟩
          have := h i y (Nat.lt_succ_self i) hy
          exact absurd ((h1 y).mpr this) (hno P0 List.mem_cons_self)
    · have hyes : ∃ P ∈ ps, y ∈ P := by
        have : (ps.any fun P => decide (y ∈ P)) = true := by simpa using hx
        obtain ⟨P, h1, h2⟩ := List.any_eq_true.mp this
        exact ⟨P, h1, by simpa using h2⟩
      refine ⟨(e.trans eH).trans e3, (tk.trans (TK.of_ex eH)).trans (TK.of_ex e3), ps, _, _, (mf.ex eH).ex e3, by omega, fun h => absurd h (Nat.succ_ne_zero i), fun s0 _ hs0 => ?_, rfl⟩
      by_cases hi0 : i = 0
      · obtain ⟨P, h1, _⟩ := hyes
        rw [hp0 hi0] at h1; cases h1
      · obtain ⟨P0, rest, rfl, h1, h2⟩ := hp1 s0 hi0 hs0
        refine ⟨P0, rest, rfl, h1, fun h m y' hm hy' => ?_, fun h => h2.mpr fun m y' hm hy' => h m y' (by omega) hy'⟩
        by_cases hmi : m = i
        · subst hmi
          rw [hy] at hy'; cases hy'
          subst h
          obtain ⟨P, hP, hyP⟩ := hyes
          rw [List.mem_singleton.mp hP] at hyP
          exact (h1 y).mp hyP
        · exact h2.mp h m y' (by omega) hy'
  · rintro H2 σ' H' e2 ⟨e, tk, ps, o3, o4, mf, hpl, hp0, hp1, rfl⟩
    refine s_retD (ed_cb (eds_cons (mf.ed rfl) eds_nil) rcd_tuple) fun z H3 e3 pz => k _ z H3 ⟨ps, rfl, ?_⟩ (e.trans e3) pz
    rw [List.length_map] at hp0 hp1
    cases g with
    | nil =>
      rw [hp0 rfl]
      exact ⟨fun h => (nomatch h), fun h => by obtain ⟨s, r, h, _⟩ := h; cases h⟩
    | cons s0 r =>
      obtain ⟨P0, rest, rfl, h1, h2⟩ := hp1 s0 (by simp) rfl
      constructor
      · intro h
        have hr : rest = [] := List.eq_nil_of_length_eq_zero (by simpa using h)
        refine ⟨s0, r, rfl, fun x hx => ?_⟩
        obtain ⟨m, hm⟩ := List.getElem?_of_mem hx
        exact h2.mp hr m x (List.getElem?_eq_some_iff.mp hm).1 hm
      · rintro ⟨s, r', he, hall⟩
        cases he
        have : rest = [] := h2.mpr fun m y _ hy => hall y (List.mem_of_getElem? hy)
        rw [this]; rfl
open Classical in
noncomputable def hungB (B : List (List Int)) (g : List Nat) : Bool := decide (Hung (nearB B) g)
theorem sc_hangs_of : FnScope ["book", "group"] ["book", "group"] (defScope st_hangs_of) := ⟨rfl, rfl, rfl, by decide +kernel, rfl, by decide +kernel, by decide +kernel⟩
theorem ok_hangs_of (T : Txt K mg) : FnOk P w K mg base CX0 5 T.d_hangs_of.f T.d_hangs_of.fd ["book", "group"] (PureSp K fun ds res => ∃ B g, ds = [bookD B, natsD g] ∧ GrpOk B g ∧ res = .bool (hungB B g)) := by
  refine T.d_hangs_of.F.ok sc_hangs_of ?len (fun cdv A outer s H vs Q E hr h => ?_)
  case len =>
    rintro vs H Q E ⟨ds, d, h, ⟨B, i, rfl, _⟩, _⟩
    exact h.length
  obtain ⟨ds, res, hA, ⟨B, g, rfl, hG, rfl⟩, k⟩ := h
  obtain ⟨v, u, rfl, p, q⟩ := dpa2 hA
  refine ⟨_, (pss_one (ps_ret (pe_cmpR op_eq (pe_callB (lenK (K := K)) (by rfl) T.b_len (by decide +kernel) (pa_cons (pe_call (ok_pieces_of T) (hr.mono (by decide)) (by rfl) T.d_pieces_of.g T.d_pieces_of.F.kp T.d_pieces_of.b .nil pass0 (pa_cons (pv 0) (pa_cons (pv 1) pa_nil))) pa_nil)) pe_int (nomark _)))), ?_⟩
  refine eq_call (K := K) (B, g) (eds_cons (ed_var rfl p) (eds_cons (ed_var rfl q) eds_nil)) hG H (Ex.refl _) _ fun d z H2 hd e2 pz => ?_
  obtain ⟨ps, rfl, hps⟩ := hd
  obtain ⟨a, xs, rfl, h1, h2⟩ := dp_tup pz
  refine ⟨a, xs, rfl, .inr h1, rfl, ?_⟩
  have hl : xs.length = ps.length := by rw [h2.length]; exact List.length_map ..
  have : decide (V.int (xs.length : Int) = V.int 1) = hungB B g := by
    unfold hungB
    rw [hl, decide_eq_decide]
    constructor
    · intro h
      have : (ps.length : Int) = 1 := by injection h
      exact hps.mp (by omega)
    · intro h
      rw [hps.mpr h]; rfl
  rw [this]
  exact k _ H2 e2 (.bl _)
end
end BB
/-! D5: books whose schemes are known to have no dict; worths, lots. -/
namespace BB
open PySem L2 Evl
section
variable {K : PySem.W.Frag} {σ : L2.St} {H H' : Hp} {te ti to : TE} {tl : TA} {v : V} {B : List (List Int)} {c : PyData} {ds : List PyData}
/-- the book at v, its schemes known -/
def BkN (H : Hp) (v : V) (B : List (List Int)) : Prop := ∃ a xs, v = .ref a ∧ Rd H a (.tup xs) ∧ xs.length = B.length ∧ ∀ (i : Nat) s, B[i]? = some s → ∃ p, xs[i]? = some (.ref p) ∧ SchA H p s
theorem BkN.ex (h : BkN H v B) (e : Ex H H') : BkN H' v B := by
  obtain ⟨a, xs, rfl, h1, h2, h3⟩ := h
  exact ⟨a, xs, rfl, ex_rd e h1, h2, fun i s hs => let ⟨p, h4, h5⟩ := h3 i s hs; ⟨p, h4, h5.ex e⟩⟩
theorem SchA.dp {p : Addr} {s : List Int} (h : SchA H p s) : Dp K H (.ref p) (schD s) := .tup h.sq (ints_dpa s)
theorem dpAll_of : ∀ {xs : List V} {ds : List PyData}, xs.length = ds.length → (∀ (i : Nat) d, ds[i]? = some d → ∃ v, xs[i]? = some v ∧ Dp K H v d) → DpAll K H xs ds
  | [], [], _, _ => .nil
  | [], _ :: _, h, _ => by simp at h
  | _ :: _, [], h, _ => by simp at h
  | x :: xs, d :: ds, h, g => by
    obtain ⟨v, h1, h2⟩ := g 0 d rfl
    cases h1
    exact .cons h2 (dpAll_of (by simpa using h) fun i d hd => by
      obtain ⟨v, h1, h2⟩ := g (i + 1) d (by simpa using hd)
      exact ⟨v, by simpa using h1, h2⟩)
theorem BkN.dp (h : BkN H v B) : Dp K H v (bookD B) := by
  obtain ⟨a, xs, rfl, h1, h2, h3⟩ := h
  refine .tup (.inl h1) (dpAll_of (by rw [h2, List.length_map]) fun i d hd => ?_)
  obtain ⟨s, hs, rfl⟩ := map_get hd
  obtain ⟨p, h4, h5⟩ := h3 i s hs
  exact ⟨_, h4, h5.dp⟩
/-- te gives the book B, its schemes known -/
def EB (te : TE) (σ : L2.St) (H : Hp) (B : List (List Int)) : Prop := ∀ H1, Ex H H1 → ∀ Q : VK, (∀ v H2, Ex H1 H2 → BkN H2 v B → Q v H2) → te σ H1 Q
theorem eb_var {i : Nat} (h : σ[i]? = some (some v)) (p : BkN H v B) : EB (tVar i) σ H B := fun H1 e Q q => ⟨v, h, q v H1 (Ex.refl _) (p.ex e)⟩
theorem EB.ed (h : EB te σ H B) : ED K te σ H (bookD B) := fun H1 e Q q => h H1 e Q fun v H2 e2 p => q v H2 e2 p.dp
/-- book[j].index(n) -/
theorem ed_tix {j : Nat} {s : List Int} {n : Int} (hb : EB to σ H B) (hi : ED K ti σ H (nD j)) (hs : B[j]? = some s) (he : ED K te σ H (.int n)) (hn : n ∈ s) : ED K (tTIx (tOp (rIxT K) to ti) te) σ H (nD (idxI n s)) := fun H1 e Q q =>
  hb H1 e _ fun v H2 e2 pb => hi H2 (e.trans e2) _ fun u H3 e3 pu => by
    obtain ⟨a, xs, rfl, h1, h2, h3⟩ := pb
    obtain ⟨p, h4, h5⟩ := h3 j s hs
    refine ⟨a, xs, j, .ref p, rfl, dp_int pu, .inl (ex_rd e3 h1), atI_nat h4, p, s, rfl, h5.ex e3, he H3 ((e.trans e2).trans e3) _ fun y H4 e4 py => ⟨n, dp_int py, hn, (h5.ex e3).ex e4, q _ H4 ((e2.trans e3).trans e4) (.int _)⟩⟩
/-- a def that has the book first, its schemes known -/
def NSp (K : PySem.W.Frag) (P : List (List Int) → List PyData → PyData → Prop) : Sp := fun vs H Q _ => ∃ v0 rest B ds d, vs = v0 :: rest ∧ BkN H v0 B ∧ DpAll K H rest ds ∧ P B ds d ∧ ∀ v H', Ex H H' → Dp K H' v d → Q v H'
theorem ed_callN {P : List (List Int) → List PyData → PyData → Prop} {E : XK} (hb : EB te σ H B) (h : EDs K tl σ H ds) (hp : P B ds c) : ED K (tCall (NSp K P) [] E (tCons te tl)) σ H c := fun H1 e Q q =>
  hb H1 e _ fun v H2 e2 pv => h H2 (e.trans e2) _ fun xs H3 e3 px => ⟨v, xs, B, ds, c, by rw [List.append_nil], pv.ex e3, px, hp, fun z H4 e4 pz => q z H4 ((e2.trans e3).trans e4) pz⟩
theorem rd_eqTag {a b : Option Nat} : RD K rEq (tagD a) (tagD b) (.bool (decide (a = b))) := fun H x y px py Q q => by
  cases a with
  | none =>
    cases dp_non px
    cases b with
    | none => cases dp_non py; exact ⟨rfl, q _ H (Ex.refl _) (.bl _)⟩
    | some j => cases dp_int py; exact ⟨rfl, q _ H (Ex.refl _) (.bl _)⟩
  | some i =>
    cases dp_int px
    cases b with
    | none => cases dp_non py; exact ⟨rfl, q _ H (Ex.refl _) (.bl _)⟩
    | some j =>
      cases dp_int py
      refine ⟨rfl, ?_⟩
      have : decide (V.int (i : Int) = V.int (j : Int)) = decide (some i = some j) := by
        rw [decide_eq_decide]
        constructor
        · intro h; have : (i : Int) = j := by injection h
          rw [show i = j by omega]
        · intro h; cases h; rfl
      rw [this]
      exact q _ H (Ex.refl _) (.bl _)
theorem rd_neTag {a b : Option Nat} : RD K rNe (tagD a) (tagD b) (.bool (!decide (a = b))) := fun H x y px py Q q => by
  cases a with
  | none =>
    cases dp_non px
    cases b with
    | none => cases dp_non py; exact ⟨rfl, q _ H (Ex.refl _) (.bl _)⟩
    | some j => cases dp_int py; exact ⟨rfl, q _ H (Ex.refl _) (.bl _)⟩
  | some i =>
    cases dp_int px
    cases b with
    | none => cases dp_non py; exact ⟨rfl, q _ H (Ex.refl _) (.bl _)⟩
    | some j =>
      cases dp_int py
      refine ⟨rfl, ?_⟩
      have : decide (V.int (i : Int) = V.int (j : Int)) = decide (some i = some j) := by
        rw [decide_eq_decide]
        constructor
        · intro h; have : (i : Int) = j := by injection h
          rw [show i = j by omega]
        · intro h; cases h; rfl
      rw [this]
      exact q _ H (Ex.refl _) (.bl _)
end
/-! ### data that stand -/
structure DataG (B : List (List Int)) (R : List (List (List Int))) : Prop where
  book : bookB B
  small : B.length ≤ 4
  len : R.length = B.length
  row : ∀ (i : Nat) rows, R[i]? = some rows → ∀ r ∈ rows, rowB (B.getD i []) r = true
  nodup : ∀ rows ∈ R, rows.Nodup
  few : ∀ rows ∈ R, rows.length ≤ 3
theorem DataG.t {B : List (List Int)} {R : List (List (List Int))} (h : DataG B R) : DataT B (R.map rowsD) := ⟨by rw [List.length_map, h.len], fun y hy => by
  obtain ⟨rows, hr, rfl⟩ := List.mem_map.mp hy
  refine .inr ⟨_, rfl, by rw [List.length_map]; have := h.few rows hr; omega, fun d hd => ?_⟩
  obtain ⟨r, hrr, rfl⟩ := List.mem_map.mp hd
  obtain ⟨i, hi⟩ := List.getElem?_of_mem hr
  have := h.row i rows hi r hrr
  refine .inl ⟨r, rfl, ?_⟩
  unfold rowB at this
  rw [Bool.and_eq_true, decide_eq_true_eq] at this
  have hil : i < B.length := by rw [← h.len]; exact (List.getElem?_eq_some_iff.mp hi).1
  have := schB_len (h.book.2.2 _ (getD_mem hil))
  omega⟩
theorem schD_mem {r : List Int} {rs : List (List Int)} : schD r ∈ rs.map schD ↔ r ∈ rs := by
  rw [List.mem_map]
  exact ⟨fun ⟨a, h, e⟩ => schD_inj e ▸ h, fun h => ⟨r, h, rfl⟩⟩
theorem nodup_take {α : Type} : ∀ {l : List α} {m : Nat} {d : α}, l.Nodup → l[m]? = some d → d ∉ l.take m
  | [], m, d, _, h => by simp at h
  | x :: l, 0, d, _, h => by simp
  | x :: l, m + 1, d, hn, h => by
    rw [List.nodup_cons] at hn
    have h' : l[m]? = some d := by simpa using h
    simp only [List.take_succ_cons, List.mem_cons, not_or]
    refine ⟨fun e => hn.1 (e ▸ List.mem_of_getElem? h'), nodup_take hn.2 h'⟩
theorem DataG.good {B : List (List Int)} {R : List (List (List Int))} (h : DataG B R) : AllGood B (R.map rowsD) := fun m y hy => by
  obtain ⟨rows, hr, rfl⟩ := map_get hy
  refine ⟨_, rfl, fun k d hd => ?_⟩
  obtain ⟨r, hrr, rfl⟩ := map_get hd
  refine ⟨⟨r, rfl, h.row m rows hr r (List.mem_of_getElem? hrr)⟩, fun hc => ?_⟩
  rw [← List.map_take] at hc
  exact nodup_take (h.nodup rows (List.mem_of_getElem? hr)) hrr (schD_mem.mp hc)
def worthN (B : List (List Int)) (R : List (List (List Int))) (i k : Nat) (c : Int) : Int := ((R.getD i []).getD k []).getD (idxI c (B.getD i [])) 0
def agreeB (B : List (List Int)) (R : List (List (List Int))) (i a j b : Nat) : Bool := (commonI B i j).all fun c => decide (worthN B R i a c = worthN B R j b c)
theorem commonI_mem {B : List (List Int)} {i j : Nat} {c : Int} : c ∈ commonI B i j ↔ c ∈ B.getD i [] ∧ c ∈ B.getD j [] := by
  unfold commonI
  rw [List.mem_filter, decide_eq_true_eq]
section
variable {P : Program} {w : World} {K : PySem.W.Frag} {mg : Str → Option Value} {base : Heap}
theorem idxI_lt {c : Int} {s : List Int} (h : c ∈ s) : idxI c s < s.length := (List.getElem?_eq_some_iff.mp (idxI_get h)).1
theorem DataG.rowlen {B : List (List Int)} {R : List (List (List Int))} (h : DataG B R) {i k : Nat} (hk : k < (R.getD i []).length) : ((R.getD i []).getD k []).length = (B.getD i []).length := by
  have hi : i < R.length := by
    by_cases q : i < R.length
    · exact q
    · rw [List.getD_eq_getElem?_getD, List.getElem?_eq_none (by omega)] at hk; exact absurd hk (Nat.not_lt_zero _)
  have h1 := h.row i _ (getD_of (d := []) hi) _ (List.mem_of_getElem? (getD_of (d := []) hk))
  unfold rowB at h1
  rw [Bool.and_eq_true, decide_eq_true_eq] at h1
  exact h1.1
theorem sc_worth_at : FnScope ["book", "data", "tags", "source", "column"] ["book", "data", "tags", "source", "column"] (defScope st_worth_at) := ⟨rfl, rfl, rfl, by decide +kernel, rfl, by decide +kernel, by decide +kernel⟩
theorem ok_worth_at (T : Txt K mg) : FnOk P w K mg base CX0 1 T.d_worth_at.f T.d_worth_at.fd ["book", "data", "tags", "source", "column"] (NSp K fun B ds res => ∃ (R : List (List (List Int))) (t : Tags) (i k : Nat) (c : Int), ds = [dataD R, tagsD t, nD i, .int c] ∧ DataG B R ∧ t[i]? = some (some k) ∧ i < B.length ∧ k < (R.getD i []).length ∧ c ∈ B.getD i [] ∧ res = .int (worthN B R i k c)) := by
  refine T.d_worth_at.F.ok sc_worth_at ?len (fun cdv A outer s H vs Q E hr h => ?_)
  case len =>
    rintro vs H Q E ⟨v0, rest, B, ds, d, rfl, _, h, ⟨R, t, i, k, c, rfl, _⟩, _⟩
    exact congrArg Nat.succ h.length
  obtain ⟨v0, rest, B, ds, res, rfl, hB, hA, ⟨R, t, i, kk, c, rfl, hD, ht, hi, hkk, hc, rfl⟩, k⟩ := h
  obtain ⟨u1, u2, u3, u4, rfl, p1, p2, p3, p4⟩ := dpa4 hA
  refine ⟨_, (pss_one (ps_ret (pe_ix (ixTK (K := K)) (pe_ix (ixTK (K := K)) (pe_ix (ixTK (K := K)) (pv 1) (pv 3) (fun _ _ => rfl)) (pe_ix (ixTK (K := K)) (pv 2) (pv 3) (fun _ _ => rfl)) (fun _ _ => rfl)) (pe_tindex (pe_ix (ixTK (K := K)) (pv 0) (pv 3) (fun _ _ => rfl)) (pv 4)) (fun _ _ => rfl)))), ?_⟩
  have hiR : i < R.length := by rw [hD.len]; exact hi
  refine s_retD (ed_op (ed_op (ed_op (ed_var rfl p1) (ed_var rfl p3) (rd_ixT (dget hiR))) ((ed_op (ed_var rfl p2) (ed_var rfl p3) (rd_ixT (d := nD kk) ?_))) (rd_ixT (rows_get hkk))) (ed_tix (eb_var rfl hB) (ed_var rfl p3) (getD_of hi) (ed_var rfl p4) hc) (rd_ixT ?_)) fun v H1 e p => k v H1 e p
  · rw [List.getElem?_map, ht]; rfl
  · have : idxI c (B.getD i []) < ((R.getD i []).getD kk []).length := by rw [hD.rowlen hkk]; exact idxI_lt hc
    rw [List.getElem?_map, getD_of this]; rfl
theorem sc_agree : FnScope ["book", "data", "tags", "i", "j", "column"] ["book", "data", "tags", "i", "j"] (defScope st_agree) := ⟨rfl, rfl, rfl, by decide +kernel, rfl, by decide +kernel, by decide +kernel⟩
theorem ok_agree (T : Txt K mg) : FnOk P w K mg base CX0 2 T.d_agree.f T.d_agree.fd ["book", "data", "tags", "i", "j"] (NSp K fun B ds res => ∃ (R : List (List (List Int))) (t : Tags) (i j a b : Nat), ds = [dataD R, tagsD t, nD i, nD j] ∧ DataG B R ∧ t[i]? = some (some a) ∧ t[j]? = some (some b) ∧ i < B.length ∧ j < B.length ∧ a < (R.getD i []).length ∧ b < (R.getD j []).length ∧ res = .bool (agreeB B R i a j b)) := by
  refine T.d_agree.F.ok sc_agree ?len (fun cdv A outer s H vs Q E hr h => ?_)
  case len =>
    rintro vs H Q E ⟨v0, rest, B, ds, d, rfl, _, h, ⟨R, t, i, j, a, b, rfl, _⟩, _⟩
    exact congrArg Nat.succ h.length
  obtain ⟨v0, rest, B, ds, res, rfl, hB, hA, ⟨R, t, i, j, a, b, rfl, hD, hti, htj, hi, hj, ha, hb, rfl⟩, k⟩ := h
  obtain ⟨u1, u2, u3, u4, rfl, p1, p2, p3, p4⟩ := dpa4 hA
  refine ⟨_, (pss_one (ps_ret (pe_callB (allK (K := K) rfl) (by rfl) T.b_all (by decide +kernel) (pa_cons (pe_lc (own := [("column", 5)]) rfl sc_agree.nd (piTK (K := K) (pe_call (ok_shared_of T) (hr.mono (by decide)) (by rfl) T.d_shared_of.g T.d_shared_of.F.kp T.d_shared_of.b .nil pass0 (pa_cons (pv 0) (pa_cons (pv 3) (pa_cons (pv 4) pa_nil))))) (blkOk_by (own := [("column", 5)]) (N := ["book", "data", "tags", "i", "j", "column"]) (sc := defScope st_agree) (by decide +kernel)) (fun _ _ _ _ _ => (pg_name (i := 5) sc_agree.nd rfl (by first | exact Or.inl rfl | exact Or.inr rfl))) (fun _ _ _ _ _ => pts_nil) (fun _ _ _ _ _ => (pe_cmpR op_eq (pe_call (ok_worth_at T) (hr.mono (by decide)) (by rfl) T.d_worth_at.g T.d_worth_at.F.kp T.d_worth_at.b .nil pass0 (pa_cons (pv 0) (pa_cons (pv 1) (pa_cons (pv 2) (pa_cons (pv 3) (pa_cons (pv 5) pa_nil)))))) (pe_call (ok_worth_at T) (hr.mono (by decide)) (by rfl) T.d_worth_at.g T.d_worth_at.F.kp T.d_worth_at.b .nil pass0 (pa_cons (pv 0) (pa_cons (pv 1) (pa_cons (pv 2) (pa_cons (pv 4) (pa_cons (pv 5) pa_nil)))))) (nomark _)))) pa_nil)))), ?_⟩
  refine s_retD (ed_all (ed_lcY (xs := commonI B i j) (enc := PyData.int) (w := fun c => .bool (decide (worthN B R i a c = worthN B R j b c))) (fun H1 e => ei_tup (ed_call (eds_cons (ed_var rfl (hB.dp.ex e)) (eds_cons (ed_var rfl (p3.ex e)) (eds_cons (ed_var rfl (p4.ex e)) eds_nil))) ⟨B, i, j, rfl, hD.book, hi, hj, rfl⟩)) ?_ (fun _ _ => rfl) (fun _ => rfl) (fun c x H1 hc e px => ?_))) fun v H1 e p => k v H1 e p
  · have h1 : (commonI B i j).length ≤ (B.getD i []).length := List.length_filter_le _ _
    have := schB_len (hD.book.2.2 _ (getD_mem hi))
    omega
  · obtain ⟨hc1, hc2⟩ := commonI_mem.mp hc
    exact ed_op (ed_callN (eb_var rfl (hB.ex e)) (eds_cons (ed_var rfl (p1.ex e)) (eds_cons (ed_var rfl (p2.ex e)) (eds_cons (ed_var rfl (p3.ex e)) (eds_cons (ed_var rfl px) eds_nil)))) ⟨R, t, i, a, c, rfl, hD, hti, hi, ha, hc1, rfl⟩)
      (ed_callN (eb_var rfl (hB.ex e)) (eds_cons (ed_var rfl (p1.ex e)) (eds_cons (ed_var rfl (p2.ex e)) (eds_cons (ed_var rfl (p4.ex e)) (eds_cons (ed_var rfl px) eds_nil)))) ⟨R, t, j, b, c, rfl, hD, htj, hj, hb, hc2, rfl⟩) rd_eqI
open Classical in
theorem hungB_yes {B : List (List Int)} {g : List Nat} (h : Hung (nearB B) g) : hungB B g = true := decide_eq_true h
open Classical in
theorem hungB_of {B : List (List Int)} {g : List Nat} (h : hungB B g = true) : Hung (nearB B) g := of_decide_eq_true h
/-- a lot, as the texts tell it -/
def IsLot (B : List (List Int)) (R : List (List (List Int))) (t : Tags) : Prop := Hung (nearB B) (haveN t) ∧ ∀ (i a j b : Nat), t[i]? = some (some a) → t[j]? = some (some b) → i < j → agreeB B R i a j b = true
open Classical in
noncomputable def isLotB (B : List (List Int)) (R : List (List (List Int))) (t : Tags) : Bool := decide (IsLot B R t)
open Classical in
theorem isLotB_no {B : List (List Int)} {R : List (List (List Int))} {t : Tags} (h : ¬ IsLot B R t) : isLotB B R t = false := decide_eq_false h
open Classical in
theorem isLotB_iff {B : List (List Int)} {R : List (List (List Int))} {t : Tags} : isLotB B R t = true ↔ IsLot B R t := decide_eq_true_iff
theorem haveN_mem {t : Tags} {i : Nat} : i ∈ haveN t ↔ ∃ a, t[i]? = some (some a) := by
  unfold haveN
  rw [List.mem_map]
  constructor
  · rintro ⟨⟨x, j⟩, h, rfl⟩
    obtain ⟨h1, h2⟩ := List.mem_filter.mp h
    rw [List.mem_zipIdx_iff_getElem?] at h1
    cases x with
    | none => simp at h2
    | some a => exact ⟨a, h1⟩
  · rintro ⟨a, h⟩
    exact ⟨(some a, i), List.mem_filter.mpr ⟨List.mem_zipIdx_iff_getElem?.mpr h, rfl⟩, rfl⟩
theorem haveN_len (t : Tags) : (haveN t).length ≤ t.length := by
  unfold haveN
  rw [List.length_map]
  exact Nat.le_trans (List.length_filter_le _ _) (by rw [List.length_zipIdx]; exact Nat.le_refl _)
theorem grp_of {B : List (List Int)} {t : Tags} (hB : bookB B) (hl : t.length = B.length) : GrpOk B (haveN t) := ⟨hB, fun x hx => by
  obtain ⟨a, ha⟩ := haveN_mem.mp hx
  rw [← hl]; exact (List.getElem?_eq_some_iff.mp ha).1, by have := haveN_len t; have := hB.2.1; omega⟩
structure TagsG (B : List (List Int)) (R : List (List (List Int))) (t : Tags) : Prop where
  len : t.length = B.length
  inr : InR R t
def agreeT (B : List (List Int)) (R : List (List (List Int))) (t : Tags) (i j : Nat) : Bool := agreeB B R i ((t.getD i none).getD 0) j ((t.getD j none).getD 0)
theorem agreeT_of {B : List (List Int)} {R : List (List (List Int))} {t : Tags} {i j a b : Nat} (h1 : t[i]? = some (some a)) (h2 : t[j]? = some (some b)) : agreeT B R t i j = agreeB B R i a j b := by
  unfold agreeT
  rw [List.getD_eq_getElem?_getD, List.getD_eq_getElem?_getD, h1, h2]; rfl
theorem sc_are_lot : FnScope ["book", "data", "tags", "group", "i", "j"] ["book", "data", "tags"] (defScope st_are_lot) := ⟨rfl, rfl, rfl, by decide +kernel, rfl, by decide +kernel, by decide +kernel⟩
theorem ok_are_lot (T : Txt K mg) : FnOk P w K mg base CX0 6 T.d_are_lot.f T.d_are_lot.fd ["book", "data", "tags"] (NSp K fun B ds res => ∃ (R : List (List (List Int))) (t : Tags), ds = [dataD R, tagsD t] ∧ DataG B R ∧ TagsG B R t ∧ res = .bool (isLotB B R t)) := by
  refine T.d_are_lot.F.ok sc_are_lot ?len (fun cdv A outer s H vs Q E hr h => ?_)
  case len =>
    rintro vs H Q E ⟨v0, rest, B, ds, d, rfl, _, h, ⟨R, t, rfl, _⟩, _⟩
    exact congrArg Nat.succ h.length
  obtain ⟨v0, rest, B, ds, res, rfl, hB, hA, ⟨R, t, rfl, hD, hT, rfl⟩, k⟩ := h
  obtain ⟨u1, u2, rfl, p1, p2⟩ := dpa2 hA
  refine ⟨_, (pss_cons (ps_set (i := 3) sc_are_lot.nd rfl (by first | exact Or.inl rfl | exact Or.inr rfl) (pe_call (ok_have T) (hr.mono (by decide)) (by rfl) T.d_have.g T.d_have.F.kp T.d_have.b .nil pass0 (pa_cons (pv 2) pa_nil)))
      (pss_cons (ps_if (pt_not (pt_val (pe_call (ok_hangs_of T) (hr.mono (by decide)) (by rfl) T.d_hangs_of.g T.d_hangs_of.F.kp T.d_hangs_of.b .nil pass0 (pa_cons (pv 0) (pa_cons (pv 3) pa_nil)))))
      (pss_one (ps_ret pe_bl))
      pss_nil)
      (pss_one (ps_ret (pe_callB (allK (K := K) rfl) (by rfl) T.b_all (by decide +kernel) (pa_cons (pe_lc2 (own := [("i", 4), ("j", 5)]) (vs1 := [5]) rfl sc_are_lot.nd (piTK (K := K) (pv 3)) (blkOk_by (own := [("i", 4), ("j", 5)]) (N := ["book", "data", "tags", "group", "i", "j"]) (sc := defScope st_are_lot) (by decide +kernel)) (by decide) (fun _ _ _ _ _ => (pg_name (i := 4) sc_are_lot.nd rfl (by first | exact Or.inl rfl | exact Or.inr rfl))) (fun _ _ _ _ _ => pts_nil) (fun _ _ _ _ _ => (piTK (K := K) (pv 3))) (fun _ _ _ _ _ => (pg_name (i := 5) sc_are_lot.nd rfl (by first | exact Or.inl rfl | exact Or.inr rfl))) (fun _ _ _ _ _ => pts_one (pt_cmpR op_lt (pv 4) (pv 5) (nomark _))) (fun _ _ _ _ _ => (pe_call (ok_agree T) (hr.mono (by decide)) (by rfl) T.d_agree.g T.d_agree.F.kp T.d_agree.b .nil pass0 (pa_cons (pv 0) (pa_cons (pv 1) (pa_cons (pv 2) (pa_cons (pv 4) (pa_cons (pv 5) pa_nil)))))))) pa_nil)))))), ?_⟩
  have hsm := hD.small
  have hgl : (haveN t).length ≤ 4 := by have := haveN_len t; have := hT.len; omega
  refine q_asgD (ed_call (eds_cons (ed_var rfl p2) eds_nil) ⟨t, rfl, by have := hT.len; omega, rfl⟩) fun g H1 e1 pg => ?_
  refine q_whenD (et_not (et_B (ed_call (eds_cons (ed_var rfl (hB.dp.ex e1)) (eds_cons (ed_var rfl pg) eds_nil)) ⟨B, haveN t, rfl, grp_of hD.book hT.len, rfl⟩))) (fun hx H2 e2 => ?_) (fun hx H2 e2 => ?_)
  · refine s_retD (K := K) ed_bl fun v H3 e3 pv => k v H3 ((e1.trans e2).trans e3) ?_
    have : isLotB B R t = false := by
      refine isLotB_no fun h => ?_
      have : hungB B (haveN t) = true := hungB_yes h.1
      rw [this] at hx; cases hx
    rw [this]; exact pv
  · have hh : Hung (nearB B) (haveN t) := by
      have : hungB B (haveN t) = true := by simpa using hx
      exact hungB_of this
    have e12 := e1.trans e2
    have pg2 := pg.ex e2
    have hin : ∀ x ∈ haveN t, x < B.length := (grp_of hD.book hT.len).inn
    let L : List PyData := (haveN t).flatMap fun (i : Nat) => ((haveN t).filter fun (j : Nat) => decide ((i : Int) < (j : Int))).map fun (j : Nat) => PyData.bool (agreeT B R t i j)
    have hL : L = ((haveN t).flatMap fun (i : Nat) => ((haveN t).filter fun (j : Nat) => decide ((i : Int) < (j : Int))).map fun (j : Nat) => agreeT B R t i j).map PyData.bool := by
      show _ = _
      rw [List.map_flatMap]
      refine congrArg (fun f => (haveN t).flatMap f) (funext fun i => ?_)
      rw [List.map_map]; rfl
    refine s_retD ((ed_cb (eds_cons ((EL.ed (el_lc2 (xs := haveN t) (enc := nD) (ys := fun _ => haveN t) (enc1 := fun _ => nD) (f := fun i j => decide ((i : Int) < (j : Int))) (w := fun i j => .bool (agreeT B R t i j))
      (fun H3 e3 => ei_tup (ds := (haveN t).map nD) (ed_var rfl (pg2.ex e3))) ?_ (fun _ _ _ _ _ => rfl) (fun i x H3 hi e3 px => ⟨[some v0, some u1, some u2, some g, some x, none], fun Q q => q, rfl, fun H4 e4 tk4 => ei_tupK (ds := (haveN t).map nD) (ed_var rfl (pg2.ex e4)) (stay_nats _), fun _ => rfl,
        fun j y H4 hj e4 tk4 py => et_test (ed_op (ed_var rfl (dp_tk tk4 _ _ rfl px)) (ed_var rfl py) rd_b), fun j y H4 hj e4 tk4 py hf => ?_⟩))).is (by show PyData.list L = _; rw [hL])) eds_nil) rcd_all).is ?_) fun v H3 e3 pv => k v H3 (e12.trans e3) pv
    rotate_left
    rotate_left
    · show PyData.bool _ = _
      have : isLotB B R t = (((haveN t).flatMap fun (i : Nat) => ((haveN t).filter fun (j : Nat) => decide ((i : Int) < (j : Int))).map fun (j : Nat) => agreeT B R t i j).all id) := by
        rw [Bool.eq_iff_iff, isLotB_iff, List.all_eq_true]
        constructor
        · rintro ⟨_, h⟩ b hb
          obtain ⟨i, hi, hb⟩ := List.mem_flatMap.mp hb
          obtain ⟨j, hj, rfl⟩ := List.mem_map.mp hb
          obtain ⟨hj1, hj2⟩ := List.mem_filter.mp hj
          obtain ⟨a, ha⟩ := haveN_mem.mp hi
          obtain ⟨b, hb⟩ := haveN_mem.mp hj1
          show agreeT B R t i j = true
          rw [agreeT_of ha hb]
          exact h i a j b ha hb (by have := of_decide_eq_true hj2; omega)
        · intro h
          refine ⟨hh, fun i a j b ha hb hij => ?_⟩
          have := h (agreeT B R t i j) (List.mem_flatMap.mpr ⟨i, haveN_mem.mpr ⟨a, ha⟩, List.mem_map.mpr ⟨j, List.mem_filter.mpr ⟨haveN_mem.mpr ⟨b, hb⟩, decide_eq_true (by omega)⟩, rfl⟩⟩)
          rw [← agreeT_of ha hb]
          exact this
      rw [this]
    · refine Nat.le_trans (m := 16) ?_ (by decide)
      rw [List.length_flatMap]
      have : ∀ l : List Nat, (l.map fun (i : Nat) => (((haveN t).filter fun (j : Nat) => decide ((i : Int) < (j : Int))).map fun (j : Nat) => PyData.bool (agreeT B R t i j)).length).sum ≤ 4 * l.length := by
        intro l
        induction l with
        | nil => simp
        | cons x l ih =>
          rw [List.map_cons, List.sum_cons, List.length_cons, List.length_map]
          have h2 : ((haveN t).filter fun (j : Nat) => decide ((x : Int) < (j : Int))).length ≤ (haveN t).length := List.length_filter_le _ _
          omega
      have := this (haveN t)
      omega
    · obtain ⟨a, ha⟩ := haveN_mem.mp hi
      obtain ⟨b, hb⟩ := haveN_mem.mp hj
      refine (ed_callN (eb_var rfl (hB.ex (e12.trans e4))) (eds_cons (ed_var rfl (p1.ex (e12.trans e4))) (eds_cons (ed_var rfl (p2.ex (e12.trans e4))) (eds_cons (ed_var rfl (dp_tk tk4 _ _ rfl px)) (eds_cons (ed_var rfl py) eds_nil)))) ⟨R, t, i, j, a, b, rfl, hD, ha, hb, hin i hi, hin j hj, hT.inr i a ha, hT.inr j b hb, rfl⟩).is ?_
      rw [agreeT_of ha hb]
theorem sc_is_lot : FnScope ["book", "data", "thing"] ["book", "data", "thing"] (defScope st_is_lot) := ⟨rfl, rfl, rfl, by decide +kernel, rfl, by decide +kernel, by decide +kernel⟩
theorem ok_is_lot (T : Txt K mg) : FnOk P w K mg base CX0 9 T.d_is_lot.f T.d_is_lot.fd ["book", "data", "thing"] (NSp K fun B ds res => ∃ (R : List (List (List Int))) (t : Tags), ds = [dataD R, tagsD t] ∧ DataG B R ∧ TagsG B R t ∧ res = .bool (t.any Option.isSome && isLotB B R t)) := by
  refine T.d_is_lot.F.ok sc_is_lot ?len (fun cdv A outer s H vs Q E hr h => ?_)
  case len =>
    rintro vs H Q E ⟨v0, rest, B, ds, d, rfl, _, h, ⟨R, t, rfl, _⟩, _⟩
    exact congrArg Nat.succ h.length
  obtain ⟨v0, rest, B, ds, res, rfl, hB, hA, ⟨R, t, rfl, hD, hT, rfl⟩, k⟩ := h
  obtain ⟨u1, u2, rfl, p1, p2⟩ := dpa2 hA
  refine ⟨_, (pss_one (ps_ret (pe_and (pe_call (ok_is_book T) (hr.mono (by decide)) (by rfl) T.d_is_book.g T.d_is_book.F.kp T.d_is_book.b .nil pass0 (pa_cons (pv 0) pa_nil)) (pe_and (pe_call (ok_is_data T) (hr.mono (by decide)) (by rfl) T.d_is_data.g T.d_is_data.F.kp T.d_is_data.b .nil pass0 (pa_cons (pv 0) (pa_cons (pv 1) pa_nil))) (pe_and (pe_call (ok_is_tags T) (hr.mono (by decide)) (by rfl) T.d_is_tags.g T.d_is_tags.F.kp T.d_is_tags.b .nil pass0 (pa_cons (pv 0) (pa_cons (pv 1) (pa_cons (pv 2) pa_nil)))) (pe_one (pe_call (ok_are_lot T) (hr.mono (by decide)) (by rfl) T.d_are_lot.g T.d_are_lot.F.kp T.d_are_lot.b .nil pass0 (pa_cons (pv 0) (pa_cons (pv 1) (pa_cons (pv 2) pa_nil)))))))))), ?_⟩
  have hsm := hD.small
  exact s_retD ((ed_and (ed_call (eds_cons (ed_var rfl hB.dp) eds_nil) ⟨B, rfl, hD.book, rfl⟩) fun _ => ed_and (ed_call (eds_cons (ed_var rfl hB.dp) (eds_cons (ed_var rfl p1) eds_nil)) ⟨B, R.map rowsD, rfl, hD.book, hD.t, .inl ⟨hD.good, rfl⟩⟩) fun _ =>
    ed_and (ed_call (eds_cons (ed_var rfl hB.dp) (eds_cons (ed_var rfl p1) (eds_cons (ed_var rfl p2) eds_nil))) ⟨B, R, t, rfl, by omega, hD.len, hT.len, hT.inr, rfl⟩) fun _ => ed_callN (eb_var rfl hB) (eds_cons (ed_var rfl p1) (eds_cons (ed_var rfl p2) eds_nil)) ⟨R, t, rfl, hD, hT, rfl⟩).is (by rfl)) fun v H1 e p => k v H1 e p
def liesB (t u : Tags) : Bool := (t.zip u).all fun p => p.1.isNone || decide (p.1 = p.2)
theorem sc_lies_within : FnScope ["one", "two", "tag", "other"] ["one", "two"] (defScope st_lies_within) := ⟨rfl, rfl, rfl, by decide +kernel, rfl, by decide +kernel, by decide +kernel⟩
theorem ok_lies_within (T : Txt K mg) : FnOk P w K mg base CX0 1 T.d_lies_within.f T.d_lies_within.fd ["one", "two"] (PureSp K fun ds res => ∃ (t u : Tags), ds = [tagsD t, tagsD u] ∧ t.length ≤ 1000 ∧ res = .bool (liesB t u)) := by
  refine T.d_lies_within.F.ok sc_lies_within ?len (fun cdv A outer s H vs Q E hr h => ?_)
  case len =>
    rintro vs H Q E ⟨ds, d, h, ⟨t, u, rfl, _⟩, _⟩
    exact h.length
  obtain ⟨ds, res, hA, ⟨t, u, rfl, hl, rfl⟩, k⟩ := h
  obtain ⟨v1, v2, rfl, p1, p2⟩ := dpa2 hA
  refine ⟨_, (pss_one (ps_ret (pe_callB (allK (K := K) rfl) (by rfl) T.b_all (by decide +kernel) (pa_cons (pe_lc (own := [("tag", 2), ("other", 3)]) rfl sc_lies_within.nd (piZK (K := K) (by rfl) T.b_zip (pa_cons (pv 0) (pa_cons (pv 1) pa_nil))) (blkOk_by (own := [("tag", 2), ("other", 3)]) (N := ["one", "two", "tag", "other"]) (sc := defScope st_lies_within) (by decide +kernel)) (fun _ _ _ _ _ => (pgTK (K := K) (n := 2) rfl (pgs_cons (pg_name (i := 2) sc_lies_within.nd rfl (by first | exact Or.inl rfl | exact Or.inr rfl)) (pgs_cons (pg_name (i := 3) sc_lies_within.nd rfl (by first | exact Or.inl rfl | exact Or.inr rfl)) pgs_nil)))) (fun _ _ _ _ _ => pts_nil) (fun _ _ _ _ _ => (pe_or (pe_cmpR op_isN (pv 2) pe_non (nomark _)) (pe_one (pe_cmpR op_eq (pv 2) (pv 3) (nomark _)))))) pa_nil)))), ?_⟩
  refine s_retD (ed_all (ed_lcpY (xs := t.zip u) (e1 := fun p => tagD p.1) (e2 := fun p => tagD p.2) (w := fun p => .bool (p.1.isNone || decide (p.1 = p.2))) (fun H1 e => ei_zipE (eds_cons (ed_var rfl (p1.ex e)) (eds_cons (ed_var rfl (p2.ex e)) eds_nil))) (by rw [List.length_zip]; omega) (fun _ _ => rfl) (fun _ _ => rfl)
    (fun p x y H1 _ e px py => (ed_or (ed_op (ed_var rfl px) ed_non rd_isN) fun _ => ed_op (ed_var rfl px) (ed_var rfl py) rd_eqTag).is (by rw [tagD_isN])))) fun v H1 e p => k v H1 e p
theorem sc_lies_in : FnScope ["one", "two"] ["one", "two"] (defScope st_lies_in) := ⟨rfl, rfl, rfl, by decide +kernel, rfl, by decide +kernel, by decide +kernel⟩
theorem ok_lies_in (T : Txt K mg) : FnOk P w K mg base CX0 2 T.d_lies_in.f T.d_lies_in.fd ["one", "two"] (PureSp K fun ds res => ∃ (t u : Tags), ds = [tagsD t, tagsD u] ∧ t.length = u.length ∧ t.length ≤ 1000 ∧ res = .bool (liesB t u)) := by
  refine T.d_lies_in.F.ok sc_lies_in ?len (fun cdv A outer s H vs Q E hr h => ?_)
  case len =>
    rintro vs H Q E ⟨ds, d, h, ⟨t, u, rfl, _⟩, _⟩
    exact h.length
  obtain ⟨ds, res, hA, ⟨t, u, rfl, hl, hz, rfl⟩, k⟩ := h
  obtain ⟨v1, v2, rfl, p1, p2⟩ := dpa2 hA
  refine ⟨_, (pss_cons (ps_if (PW.pt (pw_or (pt_not (pt_val (pe_callB (isiK (K := K)) (by rfl) T.b_isinstance (by decide +kernel) (pa_cons (pv 0) (pa_cons (pe_bltn (v := .ty "tuple") (by rfl) T.b_tuple (by decide +kernel) rfl) pa_nil))))) (pw_or (pt_not (pt_val (pe_callB (isiK (K := K)) (by rfl) T.b_isinstance (by decide +kernel) (pa_cons (pv 1) (pa_cons (pe_bltn (v := .ty "tuple") (by rfl) T.b_tuple (by decide +kernel) rfl) pa_nil))))) (pw_or1 (pt_cmpR op_ne (pe_callB (lenK (K := K)) (by rfl) T.b_len (by decide +kernel) (pa_cons (pv 0) pa_nil)) (pe_callB (lenK (K := K)) (by rfl) T.b_len (by decide +kernel) (pa_cons (pv 1) pa_nil)) (nomark _))))))
      (pss_one ps_never)
      pss_nil)
      (pss_one (ps_ret (pe_call (ok_lies_within T) (hr.mono (by decide)) (by rfl) T.d_lies_within.g T.d_lies_within.F.kp T.d_lies_within.b .nil pass0 (pa_cons (pv 0) (pa_cons (pv 1) pa_nil)))))), ?_⟩
  refine q_whenD (x := false) (ET.is (et_or (et_not (et_B (ed_isi (ed_var rfl p1) kit_tup_tup))) fun _ => et_or (et_not (et_B (ed_isi (ed_var rfl p2) kit_tup_tup))) fun _ => et_test (ed_op (ed_lenT (ed_var rfl p1)) (ed_lenT (ed_var rfl p2)) rd_neI)) ?_) (fun h => nomatch h) fun _ H1 e => ?_
  · rw [hl]; simp
  · exact s_retD (ed_call (eds_cons (ed_var rfl (p1.ex e)) (eds_cons (ed_var rfl (p2.ex e)) eds_nil)) ⟨t, u, rfl, hz, rfl⟩) fun v H2 e2 p => k v H2 (e.trans e2) p
end
end BB
/-! G2: dicts whose keys are tuples of ints and None: told by their raw object, the keys' own tuples tracked. -/
namespace BB
open PySem L2 Evl PyProof.Rows
/-! ### keys -/
def KeyN (k : NestedKey) : Prop := (∃ ks, k = .tup ks) ∧ k.depth ≤ 8 ∧ stay k.data = true
section
variable {X : Cx} {pins : List (Addr × Obj)} {σ : L2.St} {H : Hp} {s : Shared}
mutual
theorem nk_of (I : Inv X pins σ H s) : ∀ (k : NestedKey) (v : V) (u : Value), Dp X.K H v k.data → RelV v u → NestedIs s.heap k u
  | .none, v, u, p, r => by
    cases dp_non p
    cases r
    exact .none
  | .num i, v, u, p, r => by
    cases dp_int p
    obtain ⟨t, rfl⟩ := r
    exact .int _ _
  | .text x, v, u, p, r => by
    cases dp_str p
    obtain ⟨t, rfl⟩ := r
    exact .text _ _
  | .tup ks, v, u, p, r => by
    obtain ⟨a, xs, rfl, h1, h2⟩ := dp_tup p
    cases r
    obtain ⟨its, rv, ⟨o, ho, hc, n, hd⟩, hz⟩ := I.tuple h1
    exact .tup ho hc hd (by simpa using nks_of I ks xs its h2 rv)
theorem nks_of (I : Inv X pins σ H s) : ∀ (ks : List NestedKey) (vs : List V) (us : List Value), DpAll X.K H vs (NestedKey.datas ks) → Vals vs us → NestedAll s.heap ks us
  | [], vs, us, p, r => by
    cases p
    cases r
    exact .nil
  | k :: ks, vs, us, p, r => by
    cases p with
    | cons p ps =>
      cases r with
      | cons r rs => exact .cons (nk_of I k _ _ p r) (nks_of I ks _ _ ps rs)
end
end
/-! ### what is told of such a dict -/
def rawN (P : Program) (w : World) (d : Addr) (xs : List (NestedKey × Addr × Value)) (ep : Nat) : Heap → Prop := fun h => ∃ o es, h.get? d = some o ∧ o.ExactDict ∧ o.data = .dict es ep ∧ es.toList = xs.map (entryOfKey (nestedKind P w))
theorem rawN_at {P : Program} {w : World} {d : Addr} {xs : List (NestedKey × Addr × Value)} {ep : Nat} {h h' : Heap} (x : rawN P w d xs ep h) (k : ∀ o, h.get? d = some o → h'.get? d = some o) : rawN P w d xs ep h' := let ⟨o, es, h1, h2⟩ := x; ⟨o, es, k o h1, h2⟩
theorem ext_ok {P : Program} {w : World} {H : Hp} {h : Heap} {d : Addr} {xs : List (NestedKey × Addr × Value)} {ep : Nat} (x : rawN P w d xs ep h) : ObjOk P w H h d (.ext (rawN P w d xs ep)) := ⟨x, let ⟨o, _, h1, _⟩ := x; ⟨o, h1⟩, fun h1 h2 p k => rawN_at p k⟩
abbrev KN (K : PySem.W.Frag) (H : Hp) : List (NestedKey × V) → List (NestedKey × Addr × Value) → Prop := Paired fun p q => p.1 = q.1 ∧ KeyN p.1 ∧ Dp K H (.ref q.2.1) p.1.data ∧ RelV p.2 q.2.2
section
variable {K : PySem.W.Frag} {H H' : Hp} {kvs : List (NestedKey × V)} {xs : List (NestedKey × Addr × Value)}
theorem KN.val (r : KN K H kvs xs) (k : NestedKey) : RelO (valV kvs k) ((atKey xs k).map (·.2)) := by
  induction r with
  | nil => exact True.intro
  | @cons p q ps qs h t ih =>
    obtain ⟨h1, _, _, h2⟩ := h
    by_cases e : p.1 = k
    · have e' : q.1 = k := h1.symm.trans e
      have b : atKey (q :: qs) k = some q.2 := by simp [atKey, List.find?_cons, e']
      rw [valV_pos e, b]; exact h2
    · have e' : ¬ q.1 = k := fun z => e (h1.trans z)
      have b : atKey (q :: qs) k = atKey qs k := by simp [atKey, List.find?_cons, e']
      rw [valV_neg e, b]; exact ih
theorem KN.isS (r : KN K H kvs xs) (k : NestedKey) : (atKey xs k).isSome = (valV kvs k).isSome := by
  have := (r.val k).isSome_eq
  rw [this, Option.isSome_map]
theorem KN.repl (r : KN K H kvs xs) (k : NestedKey) {y : V} {u : Value} (ry : RelV y u) : KN K H (kvs.map fun kv => if kv.1 = k then (kv.1, y) else kv) (xs.map (putAt k u)) := by
  induction r with
  | nil => exact .nil
  | @cons p q ps qs h t ih =>
    rw [List.map_cons, List.map_cons]
    refine .cons ?_ ih
    obtain ⟨h1, h2, h3, h4⟩ := h
    unfold putAt
    by_cases e : p.1 = k
    · rw [if_pos e, if_pos (h1.symm.trans e)]; exact ⟨h1, h2, h3, ry⟩
    · rw [if_neg e, if_neg (fun z => e (h1.trans z))]; exact ⟨h1, h2, h3, h4⟩
theorem KN.put (r : KN K H kvs xs) (k : NestedKey) {b : Addr} {y : V} {u : Value} (hk : KeyN k) (hb : Dp K H (.ref b) k.data) (ry : RelV y u) : KN K H (putK kvs k y) (storedH xs k b u) := by
  have e : (kvs.any fun kv => decide (kv.1 = k)) = (atKey xs k).isSome := by rw [valV_any, r.isS k]
  unfold putK storedH
  rw [e]
  by_cases q : (atKey xs k).isSome = true
  · rw [if_pos q, if_pos q]; exact r.repl k ry
  · rw [if_neg q, if_neg q]; exact Paired.snoc r ⟨rfl, hk, hb, ry⟩
theorem KN.tk (r : KN K H kvs xs) (t : TK H H') : KN K H' kvs xs := Paired.mapP r fun _ _ z => ⟨z.1, z.2.1, dp_tk t _ _ z.2.1.2.2 z.2.2.1, z.2.2.2⟩
def mergeN (kvs more : List (NestedKey × V)) : List (NestedKey × V) := more.foldl (fun acc p => putK acc p.1 p.2) kvs
theorem KN.merge {more : List (NestedKey × V)} {ys : List (NestedKey × Addr × Value)} (t : KN K H more ys) : ∀ {kvs : List (NestedKey × V)} {xs : List (NestedKey × Addr × Value)}, KN K H kvs xs → KN K H (mergeN kvs more) (storedAllH xs ys) := by
  induction t with
  | nil => intro kvs xs r; exact r
  | @cons p q ps qs h t ih =>
    intro kvs xs r
    obtain ⟨h1, h2, h3, h4⟩ := h
    have r' := r.put p.1 h2 h3 h4
    have e : storedH xs p.1 q.2.1 q.2.2 = storedH xs q.1 q.2.1 q.2.2 := by rw [h1]
    rw [e] at r'
    exact ih r'
end
/-- at d stands a dict with the entries kvs -/
def DN (P : Program) (w : World) (K : PySem.W.Frag) (H : Hp) (d : Addr) (kvs : List (NestedKey × V)) : Prop :=
  ∃ xs ep, H d = some (.ext (rawN P w d xs ep)) ∧ (d == sysModules) = false ∧ xs.length ≤ sizeLine ∧ (xs.map (·.1)).Nodup ∧ KN K H kvs xs
section
variable {P : Program} {w : World} {K : PySem.W.Frag} {H H' H2 : Hp} {d a : Addr} {kvs more : List (NestedKey × V)} {k : NestedKey}
theorem DN.tk (h : DN P w K H d kvs) (t : TK H H') (e : H' d = H d) : DN P w K H' d kvs := let ⟨xs, ep, h1, h2, h3, h4, h5⟩ := h; ⟨xs, ep, e.trans h1, h2, h3, h4, h5.tk t⟩
theorem DN.ex (h : DN P w K H d kvs) (e : Ex H H') : DN P w K H' d kvs := h.tk (TK.of_ex e) (by let ⟨xs, ep, h1, _⟩ := h; rw [h1]; exact e _ _ h1)
theorem KN.keys {xs : List (NestedKey × Addr × Value)} (r : KN K H kvs xs) : kvs.map (·.1) = xs.map (·.1) := by
  induction r with
  | nil => rfl
  | cons h t ih => rw [List.map_cons, List.map_cons, h.1, ih]
theorem DN.nodup (h : DN P w K H d kvs) : (kvs.map (·.1)).Nodup := by
  obtain ⟨xs, ep, _, _, _, h4, h5⟩ := h
  rw [h5.keys]; exact h4
theorem DN.some (h : DN P w K H d kvs) : ∃ φ, H d = some (.ext φ) := let ⟨xs, ep, h1, _⟩ := h; ⟨_, h1⟩
theorem TK.upd_ext {φ : Heap → Prop} {o : HO} (h : H d = some (.ext φ)) : TK H (upd H d o) := fun a ys r => by
  have ne : a ≠ d := by
    rintro rfl
    rcases r with r | ⟨_, r⟩ <;> (rw [h] at r; cases r)
  rcases r with r | ⟨z, r⟩
  · exact .inl (by rw [upd_ne ne]; exact r)
  · exact .inr ⟨z, by rw [upd_ne ne]; exact r⟩
end
section
variable {X : Cx} {pins : List (Addr × Obj)} {σ : L2.St} {H : Hp} {s : Shared} {d : Addr} {kvs : List (NestedKey × V)} {xs : List (NestedKey × Addr × Value)} {ep : Nat}
theorem kn_is (I : Inv X pins σ H s) (r : KN X.K H kvs xs) : ∀ x ∈ xs, (nestedKind X.prog X.w).is s.heap x.1 x.2.1 := by
  induction r with
  | nil => intro x hx; cases hx
  | @cons p q ps qs h t ih =>
    intro x hx
    rcases List.mem_cons.mp hx with e | hx
    · subst e
      obtain ⟨h1, h2, h3, _⟩ := h
      rw [← h1]
      exact ⟨nk_of I p.1 _ _ h3 rfl, h2.2.1⟩
    · exact ih x hx
theorem kn_of (I : Inv X pins σ H s) (h1 : H d = some (.ext (rawN X.prog X.w d xs ep))) (h4 : (xs.map (·.1)).Nodup) (h5 : KN X.K H kvs xs) : s.heap.DictOfH (nestedKind X.prog X.w) d xs := by
  obtain ⟨⟨o, es, g1, g2, g3, g4⟩, _⟩ := I.hok d _ h1
  exact ⟨o, es, ep, g1, g2, g3, g4, kn_is I h5, h4⟩
theorem dn_write {h' : Heap} {t' : Nat} {xs' : List (NestedKey × Addr × Value)} (I : Inv X pins σ H s) (h1 : H d = some (.ext (rawN X.prog X.w d xs ep))) (dd' : h'.DictOfH (nestedKind X.prog X.w) d xs') (hs : Heap.SameBut d s.heap h') :
    ∃ ep', Inv X pins σ (upd H d (.ext (rawN X.prog X.w d xs' ep'))) { s with heap := h', toks := t' } := by
  obtain ⟨o, es, ep', g1, g2, g3, g4, _, _⟩ := dd'
  exact ⟨ep', d_write I (by rw [h1]; exact True.intro) hs ⟨o, g1⟩ (ext_ok ⟨o, es, g1, g2, g3, g4⟩)⟩
end
/-- the dict at d is written -/
def StepN (d : Addr) (H H2 : Hp) : Prop := ∃ H1 φ ψ, Ex H H1 ∧ H1 d = some (.ext φ) ∧ H2 = upd H1 d (.ext ψ)
/-- room for keys -/
def RoomN (A : Around) : Prop := A.units + 12 < cLine
theorem room_n {k : Nat} {A : Around} (r : Room k A) : RoomN A := by have := r.un; unfold RoomN; omega
theorem RoomN.in1 {prog : Program} {w : World} {A : Around} (r : RoomN A) : (nestedKind prog w).room A.in1 := by
  show A.units + 1 + 8 < cLine
  unfold RoomN at r; omega
theorem RoomN.at' {prog : Program} {w : World} {A : Around} (r : RoomN A) : (nestedKind prog w).room A := by
  show A.units + 8 < cLine
  unfold RoomN at r; omega
/-! ### rules -/
section
variable {P : Program} {w : World}
/-- k in d, k not in d -/
def rInN (P : Program) (w : World) (K : PySem.W.Frag) : R2 := fun x y H Q => ∃ d kvs k, y = .ref d ∧ DN P w K H d kvs ∧ KeyN k ∧ Dp K H x k.data ∧ Q (.bl (valV kvs k).isSome) H
def rNiN (P : Program) (w : World) (K : PySem.W.Frag) : R2 := fun x y H Q => ∃ d kvs k, y = .ref d ∧ DN P w K H d kvs ∧ KeyN k ∧ Dp K H x k.data ∧ Q (.bl (!(valV kvs k).isSome)) H
end
section
variable {X : Cx}
theorem keyn_ref {K : PySem.W.Frag} {H : Hp} {x : V} {k : NestedKey} (hk : KeyN k) (p : Dp K H x k.data) : ∃ a, x = .ref a := by
  obtain ⟨⟨ks, rfl⟩, _⟩ := hk
  obtain ⟨a, xs, rfl, _⟩ := dp_tup p
  exact ⟨a, rfl⟩
theorem op_inN (hu : RoomN X.A) : OpR X (compareOp .In) (rInN X.prog X.w X.K) := by
  intro pins s σ H x y v u Q I rx ry h
  obtain ⟨d, kvs, k, rfl, ⟨xs, ep, h1, h2, h3, h4, h5⟩, hk, p, q⟩ := h
  obtain ⟨a, rfl⟩ := keyn_ref hk p
  cases rx; cases ry
  refine in_keyed (knd := nestedKind X.prog X.w) (k := k) (kvs := pairsH xs) hu.in1 ⟨nk_of I k _ _ p rfl, hk.2.1⟩ h2 ⟨xs, kn_of I h1 h4 h5, rfl⟩ ⟨.bl (valV kvs k).isSome, H, I.tok _, ?_, q⟩
  rw [valueAt_pairsH, Option.isSome_map, h5.isS k]; rfl
theorem op_niN (hu : RoomN X.A) : OpR X (compareOp .NotIn) (rNiN X.prog X.w X.K) := by
  intro pins s σ H x y v u Q I rx ry h
  obtain ⟨d, kvs, k, rfl, ⟨xs, ep, h1, h2, h3, h4, h5⟩, hk, p, q⟩ := h
  obtain ⟨a, rfl⟩ := keyn_ref hk p
  cases rx; cases ry
  refine notIn_keyed (knd := nestedKind X.prog X.w) (k := k) (kvs := pairsH xs) hu.in1 ⟨nk_of I k _ _ p rfl, hk.2.1⟩ h2 ⟨xs, kn_of I h1 h4 h5, rfl⟩ ⟨.bl (!(valV kvs k).isSome), H, I.tok _, ?_, q⟩
  rw [valueAt_pairsH, Option.isSome_map, h5.isS k]; rfl
/-- d[k] -/
def tGetN (P : Program) (w : World) (K : PySem.W.Frag) (td ty : TE) : TE := fun σ H Q => td σ H fun x H1 => ty σ H1 fun y H2 => ∃ d kvs k v, x = .ref d ∧ DN P w K H2 d kvs ∧ KeyN k ∧ Dp K H2 y k.data ∧ valV kvs k = some v ∧ Q v H2
theorem pe_getN {o i : Expr} {pos : Pos} {td ty : TE} (hu : RoomN X.A) (ho : PE X o td) (hi : PE X i ty) (hs : NoSl i) : PE X (.Subscript o i pos) (tGetN X.prog X.w X.K td ty) := by
  refine ⟨fun pins s σ H Q I h => ?_⟩
  refine subD_of PySem.F.slot_dict_getitem.lookup hs (thn (ho.run pins s σ H _ I h) fun u s1 ⟨x, H1, I1, rx, q1⟩ => thn (hi.run pins s1 σ H1 _ I1 q1) fun iv s2 ⟨y, H2, I2, ry, d, kvs, k, v, ex, ⟨xs, ep, h1, h2, h3, h4, h5⟩, hk, p, hv, q2⟩ => ?_)
  subst ex
  obtain rfl : u = Value.ref d := rx
  obtain ⟨a, rfl⟩ := keyn_ref hk p
  obtain rfl : iv = Value.ref a := ry
  have dd := kn_of I2 h1 h4 h5
  refine ⟨dd.typeIs, ?_⟩
  have hr := h5.val k
  rw [hv] at hr
  cases ha : atKey xs k with
  | none => rw [ha] at hr; exact hr.elim
  | some pr =>
    rw [ha] at hr
    exact wpAny_getItem_heap (knd := nestedKind X.prog X.w) hu.in1 ⟨nk_of I2 k _ _ p rfl, hk.2.1⟩ dd ha ⟨v, H2, I2.tok _, hr, q2⟩
/-- d[k] = v -/
def sPutN (P : Program) (w : World) (K : PySem.W.Frag) (td ty tv : TE) : TS := fun D σ H => tv σ H fun v H1 => td σ H1 fun x H2 => ty σ H2 fun y H3 => ∃ d kvs k, x = .ref d ∧ DN P w K H3 d kvs ∧ KeyN k ∧ Dp K H3 y k.data ∧ kvs.length < 100000 ∧
  ∀ H4, StepN d H3 H4 → DN P w K H4 d (putK kvs k v) → D.nx σ H4
theorem KN.len {K : PySem.W.Frag} {H : Hp} {kvs : List (NestedKey × V)} {xs : List (NestedKey × Addr × Value)} (r : KN K H kvs xs) : kvs.length = xs.length := Paired.length r
theorem dn_put {A : Around} {E : Value → Shared → Prop} {pins : List (Addr × Obj)} {σ : L2.St} {H : Hp} {s : Shared} {d a : Addr} {kvs : List (NestedKey × V)} {k : NestedKey} {v : V} {r : Value} {Q : Unit → Shared → Prop} (hu : RoomN A) (I : Inv X pins σ H s) (h : DN X.prog X.w X.K H d kvs) (hk : KeyN k) (p : Dp X.K H (.ref a) k.data) (hz : kvs.length < 100000) (rv : RelV v r)
    (hQ : ∀ H4 s', Inv X pins σ H4 s' → StepN d H H4 → DN X.prog X.w X.K H4 d (putK kvs k v) → Q () s') : wpAny (model X.prog X.w) A (setItem (.ref d) (.ref a) r) Q E s := by
  obtain ⟨xs, ep, h1, h2, h3, h4, h5⟩ := h
  have hl := h5.len
  have hsz : (100000 : Nat) ≤ sizeLine := sz_of (Nat.le_refl _)
  refine wpAny_setItem_heap (knd := nestedKind X.prog X.w) hu.in1 ⟨nk_of I k _ _ p rfl, hk.2.1⟩ (kn_of I h1 h4 h5) (fun h' dd' hs => ?_) (hsz := h3)
  obtain ⟨ep', I'⟩ := dn_write (t' := s.toks + (nestedKind X.prog X.w).draws k) I h1 dd' hs
  refine hQ _ _ I' ⟨H, _, _, Ex.refl _, h1, rfl⟩ ⟨_, ep', upd_same, h2, ?_, ?_, (h5.put k hk p rv).tk (TK.upd_ext h1)⟩
  · have := storedH_length xs k a r; omega
  · obtain ⟨_, _, _, _, _, _, _, _, hn⟩ := dd'; exact hn
theorem ps_putN {o i value : Expr} {pos pos' : Pos} {td ty tv : TE} (hu : RoomN X.A) (ho : PE X o td) (hi : PE X i ty) (hv : PE X value tv) (hs : swapsWith value (some (.Subscript o i pos')) pos.line X.env = pure false := by rfl) :
    PS X (.Assign [.Subscript o i pos'] value pos) (sPutN X.prog X.w X.K td ty tv) := by
  refine ⟨fun pins s σ H D I h => ?_⟩
  refine wpAny_Assign_Subscript (thn (hv.run pins s σ H _ I h) fun r s1 ⟨v, H1, I1, rv, q1⟩ => thn (ho.run pins s1 σ H1 _ I1 q1) fun u s2 ⟨x, H2, I2, rx, q2⟩ => thn (hi.run pins s2 σ H2 _ I2 q2) fun iv s3 ⟨y, H3, I3, ry, d, kvs, k, ex, hd, hk, p, hz, q3⟩ => ?_) hs
  subst ex
  obtain rfl : u = Value.ref d := rx
  obtain ⟨a, rfl⟩ := keyn_ref hk p
  obtain rfl : iv = Value.ref a := ry
  exact dn_put hu I3 hd hk p hz rv fun H4 s4 I4 st dn => ⟨σ, H4, I4, q3 H4 st dn⟩
/-- {} -/
def tNewN (P : Program) (w : World) (K : PySem.W.Frag) : TE := fun _ H Q => ∀ d H', H d = none → (∃ φ, H' = upd H d (.ext φ)) → DN P w K H' d [] → Q (.ref d) H'
theorem raw_new {P : Program} {w : World} (h : Heap) : rawN P w h.objs.size [] 0 (h.push { cls := .type "dict", data := .dict #[] }) := ⟨_, #[], Heap.get?_push_size _ rfl, ⟨rfl, rfl, rfl⟩, rfl, rfl⟩
theorem pe_newN {pos : Pos} : PE X (.Dict [] [] pos) (tNewN X.prog X.w X.K) := ⟨fun pins s σ H Q I h => by
  have hn := I.hok.fresh (Nat.le_refl s.heap.objs.size)
  refine wpAny_Dict_empty ⟨.ref s.heap.objs.size, upd H s.heap.objs.size (.ext (rawN X.prog X.w s.heap.objs.size [] 0)), I.laid (t' := s.toks) (fun _ _ q => Heap.get?_push_of_some _ q) (Nat.le_refl _) (ext_ok (raw_new _)), rfl, h _ _ hn ⟨_, rfl⟩ ?_⟩
  exact ⟨[], 0, upd_same, beq_eq_false_iff_ne.mpr (Ne.symm (Nat.ne_of_lt I.big)), Nat.zero_le _, List.nodup_nil, .nil⟩⟩
/-- len(d) -/
def rLenN (P : Program) (w : World) (K : PySem.W.Frag) : List V → Hp → VK → Prop := fun vs H Q => ∃ d kvs, vs = [.ref d] ∧ DN P w K H d kvs ∧ Q (.int (kvs.length : Nat)) H
theorem call_lenN : CallR X (.builtin "len") (rLenN X.prog X.w X.K) := by
  intro pins s σ H vs us Q I r h
  obtain ⟨d, kvs, rfl, ⟨xs, ep, h1, h2, h3, h4, h5⟩, q⟩ := h
  obtain ⟨u, rfl, rx⟩ := vals1 r
  obtain rfl : u = .ref d := rx
  refine call_len_dictH (knd := nestedKind X.prog X.w) h2 (kn_of I h1 h4 h5) (by rw [sizeLine_eq] at h3; omega) ⟨.int (xs.length : Nat), H, I.tok _, ⟨_, rfl⟩, ?_⟩
  rw [← h5.len]; exact q
/-- d.update(d2) -/
def rUpdN (P : Program) (w : World) (K : PySem.W.Frag) : V → List V → Hp → VK → Prop := fun x vs H Q => ∃ d o kvs more, x = .ref d ∧ vs = [.ref o] ∧ d ≠ o ∧ DN P w K H d kvs ∧ DN P w K H o more ∧ (kvs ≠ [] ∨ (more.map fun p => p.1.hash w).Nodup) ∧ kvs.length + more.length ≤ 100000 ∧
  ∀ H', StepN d H H' → DN P w K H' d (mergeN kvs more) → Q .non H'
theorem mt_updN (hu : RoomN X.A) : MtR X "dict.update" (rUpdN X.prog X.w X.K) := by
  intro pins s σ H x vs v us Q I rx rs h
  obtain ⟨d, o, kvs, more, rfl, rfl, hne, ⟨xs, ep, h1, h2, h3, h4, h5⟩, ⟨ys, ep2, g1, g2, g3, g4, g5⟩, hh, hz, q⟩ := h
  cases rx
  obtain ⟨u, rfl, ru⟩ := rs.one
  obtain rfl : u = .ref o := ru
  have hl := h5.len
  have hl2 := g5.len
  have hsz : xs.length + ys.length ≤ sizeLine := sz_of (by omega)
  have hy := kn_of I g1 g4 g5
  refine call_update_dictH (knd := nestedKind X.prog X.w) hu.in1 hne g2 (kn_of I h1 h4 h5) hy ?_ hsz fun h' dd' _ hs => ?_
  · rcases hh with z | z
    · refine .inl fun e => z ?_
      subst e
      exact List.eq_nil_of_length_eq_zero hl
    · refine .inr ⟨keyed_apart nestedKind_stays hy, ?_⟩
      have e : (ys.map fun x => (nestedKind X.prog X.w).hash x.1) = more.map fun p => p.1.hash X.w := by
        clear hl2 hz hsz hy g4 g1 g3 z q
        induction g5 with
        | nil => rfl
        | cons h t ih => rw [List.map_cons, List.map_cons, ih, h.1]; rfl
      rw [e]; exact z
  · obtain ⟨ep', I'⟩ := dn_write (t' := s.toks) I h1 dd' hs
    refine ⟨.non, _, I', rfl, q _ ⟨H, _, _, Ex.refl _, h1, rfl⟩ ⟨_, ep', upd_same, h2, ?_, ?_, (g5.merge h5).tk (TK.upd_ext h1)⟩⟩
    · have := storedAllH_length ys xs; omega
    · obtain ⟨_, _, _, _, _, _, _, _, hn⟩ := dd'; exact hn
theorem keys_vals : ∀ xs : List (NestedKey × Addr × Value), Vals (xs.map fun q => V.ref q.2.1) (xs.map fun q => Value.ref q.2.1)
  | [] => .nil
  | _ :: xs => .cons rfl (keys_vals xs)
theorem KN.dps {K : PySem.W.Frag} {H : Hp} {kvs : List (NestedKey × V)} {xs : List (NestedKey × Addr × Value)} (r : KN K H kvs xs) : DpAll K H (xs.map fun q => V.ref q.2.1) (kvs.map fun p => p.1.data) := by
  induction r with
  | nil => exact .nil
  | cons h t ih => exact .cons h.2.2.1 ih
/-- list(d) -/
def rListN (P : Program) (w : World) (K : PySem.W.Frag) : List V → Hp → VK → Prop := fun vs H Q => ∃ d kvs, vs = [.ref d] ∧ DN P w K H d kvs ∧ ∀ l ys, H l = none → DpAll K H ys (kvs.map fun p => p.1.data) → Q (.ref l) (upd H l (.lst ys))
theorem call_listN (hc : X.calm = true) : CallR X (.type "list") (rListN X.prog X.w X.K) := by
  intro pins s σ H vs us Q I r h
  obtain ⟨d, kvs, rfl, ⟨xs, ep, h1, h2, h3, h4, h5⟩, q⟩ := h
  obtain ⟨u, rfl, rx⟩ := vals1 r
  obtain rfl : u = .ref d := rx
  obtain ⟨⟨o, es, g1, g2, g3, g4⟩, _⟩ := I.hok d _ h1
  have hes : es.size = xs.length := by rw [← Array.length_toList, g4, List.length_map]
  have hl := h5.len
  refine PySem.W.kdl_call (KdlSrc.rawDict (es := es) (ep := ep) h2) (I.ok.hd hc) ⟨o, g1, g2, g3⟩ (by rw [hes]; exact h3) fun h' tk acc' c' hk hS hacc => ?_
  have hn := I.hok.fresh (Nat.le_refl s.heap.objs.size)
  have hsz : acc'.toList.length = xs.length := by rw [Array.length_toList, hacc.1, hes]
  have hat : ∀ (j : Nat) q, xs[j]? = some q → acc'.toList[j]? = some (.ref q.2.1) := fun j q hq => by
    have hj : j < acc'.toList.length := by rw [hsz]; exact (List.getElem?_eq_some_iff.mp hq).1
    rw [List.getElem?_eq_getElem hj]
    obtain ⟨hi, e⟩ := hacc.2 j acc'.toList[j] (by rw [← Array.getElem?_toList, List.getElem?_eq_getElem hj])
    rw [e]
    have h6 : es.toList[j]? = some (entryOfKey (nestedKind X.prog X.w) q) := by rw [g4, List.getElem?_map, hq]; rfl
    have h7 : es[j] = entryOfKey (nestedKind X.prog X.w) q := by
      rw [Array.getElem?_toList, Array.getElem?_eq_getElem hi] at h6
      exact Option.some.inj h6
    rw [h7]; rfl
  have hacc' : acc'.toList = xs.map fun q => Value.ref q.2.1 := by
    refine List.ext_getElem? fun j => ?_
    cases hq : xs[j]? with
    | none =>
      rw [List.getElem?_map, hq]
      exact List.getElem?_eq_none (by rw [hsz]; exact List.getElem?_eq_none_iff.mp hq)
    | some q => rw [hat j q hq, List.getElem?_map, hq]; rfl
  have hv : Vals (xs.map fun q => V.ref q.2.1) acc'.toList := by
    rw [hacc']
    exact keys_vals xs
  have new : ObjOk X.prog X.w (upd H s.heap.objs.size (.lst (xs.map fun q => V.ref q.2.1))) h' s.heap.objs.size (.lst (xs.map fun q => V.ref q.2.1)) := ⟨by rw [List.length_map]; exact h3, acc'.toList, c', hv, by rw [hS]⟩
  exact ⟨.ref s.heap.objs.size, _, I.laid (t' := tk) hk (Nat.le_refl _) new, rfl, q _ _ hn h5.dps⟩
/-! ### for k in d -/
def ItN (P : Program) (w : World) (d : Addr) (xs : List (NestedKey × Addr × Value)) (ep : Nat) : It :=
  ⟨fun i H => H d = some (.ext (rawN P w d xs ep)) ∧ i < xs.length, fun i H x H' => H' = H ∧ ∃ q, xs[i]? = some q ∧ x = .ref q.2.1, fun i H => H d = some (.ext (rawN P w d xs ep)) ∧ xs.length ≤ i⟩
theorem turn_keysN {P : Program} {w : World} {K : PySem.W.Frag} {tg : Expr} {d : Addr} {xs : List (NestedKey × Addr × Value)} {ep : Nat} (it : Addr) : Turn P w K tg (ItN P w d xs ep) [it] it (fun i h => h.IsKeyIter it d i xs.length ep) where
  mem := by simp
  obj := fun i h st b hb => by
    have e : b = it := by simpa using hb
    subst e
    obtain ⟨oi, e, c, dd⟩ := st
    exact ⟨oi, e, fun v z => by rw [dd] at z; cases z⟩
  keep := fun i h h' st k => st.at fun oi e => k it (by simp) oi e
  item := by
    intro X hP hw hK hc i pins s σ H E I hf st hg
    subst hP hw hK
    obtain ⟨hd, hi⟩ := hg
    obtain ⟨f0, f1, f2, f3, f4, f5⟩ := hf it (by simp)
    obtain ⟨⟨o, es, g1, g2, g3, g4⟩, _⟩ := I.hok d _ hd
    have hes : es.size = xs.length := by rw [← Array.length_toList, g4, List.length_map]
    have hie : i < es.size := by rw [hes]; exact hi
    rw [← hes] at st
    refine wpAny_pyNext_keys_item_raw st ⟨o, g1, g2, g3⟩ hie fun h' st' sb => ?_
    have I1 : Inv X pins σ H { s with heap := h' } := I.turned (t' := s.toks) (fun b ob hb e => (sb.2 b hb).trans e) f0 f1 f3 f4 f5
    obtain ⟨oi, e, c, dd⟩ := id st'
    have h6 : es.toList[i]? = some (entryOfKey (nestedKind X.prog X.w) xs[i]) := by rw [g4, List.getElem?_map, List.getElem?_eq_getElem hi]; rfl
    have h7 : es[i] = entryOfKey (nestedKind X.prog X.w) xs[i] := by
      rw [Array.getElem?_toList, Array.getElem?_eq_getElem hie] at h6
      exact Option.some.inj h6
    have h8 : es[i].key = .ref xs[i].2.1 := by rw [h7]; rfl
    refine ⟨es[i].key, rfl, go_of (s := { s with heap := h' }) e c dd (by decide) ⟨.ref xs[i].2.1, H, I1, by rw [h8]; rfl, ⟨rfl, xs[i], List.getElem?_eq_getElem hi, rfl⟩, ?_, fun b hb => (hf b hb).1⟩⟩
    show h'.IsKeyIter it d (i + 1) xs.length _
    rw [← hes]
    exact st'
  done := by
    intro X hP hw hK hc i pins s σ H E I hf st hg
    subst hP hw hK
    obtain ⟨hd, hi⟩ := hg
    obtain ⟨f0, f1, f2, f3, f4, f5⟩ := hf it (by simp)
    obtain ⟨⟨o, es, g1, g2, g3, g4⟩, _⟩ := I.hok d _ hd
    have hes : es.size = xs.length := by rw [← Array.length_toList, g4, List.length_map]
    rw [← hes] at st
    exact wpAny_pyNext_keys_end_raw (I.ok.hd hc) st ⟨o, g1, g2, g3⟩ (by rw [hes]; exact hi) fun h' eb => ⟨rfl, I.turned (t' := s.toks) (fun b ob hb e => eb b ob hb e) f0 f1 f3 f4 f5⟩
  self := fun A i s Q E st h => wpAny_pyIter_keyiter st h
def iKeysN (P : Program) (w : World) (td : TE) : TI := fun σ H R => td σ H fun x H1 => ∃ d xs ep, x = .ref d ∧ H1 d = some (.ext (rawN P w d xs ep)) ∧ (d == sysModules) = false ∧ R (ItN P w d xs ep) H1
theorem pi_keysN {tg e : Expr} {td : TE} (he : PE X e td) : PI X tg e (iKeysN X.prog X.w td) := by
  refine ⟨fun pins s σ H R I h => thn (he.run pins s σ H _ I h) fun v s1 ⟨x, H1, I1, r1, q1⟩ => ?_⟩
  obtain ⟨d, xs, ep, rfl, h1, h2, q⟩ := q1
  cases r1
  obtain ⟨⟨o, es, g1, g2, g3, g4⟩, _⟩ := I1.hok d _ h1
  have hes : es.size = xs.length := by rw [← Array.length_toList, g4, List.length_map]
  refine wpAny_pyIter_dict_raw h2 ⟨o, g1, g2, g3⟩ ?_
  refine ⟨s1.heap.objs.size, [s1.heap.objs.size], _, _, H1, rfl, I1.kept (t' := s1.toks) fun b o e => Heap.get?_push_of_some _ e, turn_keysN s1.heap.objs.size, ?_, fun b hb => ?_, q⟩
  · rw [hes]
    exact ⟨_, Heap.get?_push_size _ rfl, rfl, rfl⟩
  · have e : b = s1.heap.objs.size := by simpa using hb
    subst e
    exact I1.fpOk (Nat.le_refl _) (I1.hok.fresh (Nat.le_refl _))
/-! ### {k: v for .. in ..} -/
/-- the new dict stands at D -/
def tDcN (P : Program) (w : World) (K : PySem.W.Frag) (wi : TI) (g : TG) (tt : TT) (tk tv : TE) (vs : List Nat) : TE := fun σ H Q => wi σ H fun J H1 => ∀ D H2, H1 D = none → (∃ φ, H2 = upd H1 D (.ext φ)) → DN P w K H2 D [] → ∃ W : Nat → Nat → Hp → Prop, (∃ m, W 0 m H2) ∧ ∀ i m H, W i m H →
  (J.stop i H ∧ Q (.ref D) H) ∨ (J.go i H ∧ ∃ Nx : Hp → Prop, (∀ H', Nx H' → ∃ m', m' < m ∧ W (i + 1) m' H') ∧ ∀ x H', J.yld i H x H' → g x (wipe σ vs) H' fun σ2 H2 => wipe σ2 vs = wipe σ vs ∧ tt σ2 H2 fun b H3 =>
    if b = true then tk σ2 H3 fun y H4 => tv σ2 H4 fun z H5 => ∃ kvs k, DN P w K H5 D kvs ∧ KeyN k ∧ Dp K H5 y k.data ∧ kvs.length < 100000 ∧ ∀ H6, StepN D H5 H6 → DN P w K H6 D (putK kvs k z) → Nx H6 else Nx H3)
theorem dn_dset {E : Value → Shared → Prop} {pins : List (Addr × Obj)} {σ : L2.St} {H : Hp} {s : Shared} {d a : Addr} {kvs : List (NestedKey × V)} {k : NestedKey} {v : V} {r : Value} {Q : Unit → Shared → Prop} (hu : RoomN X.A) (I : Inv X pins σ H s) (h : DN X.prog X.w X.K H d kvs) (hk : KeyN k) (p : Dp X.K H (.ref a) k.data) (hz : kvs.length < 100000) (rv : RelV v r)
    (hQ : ∀ H4 s', Inv X pins σ H4 s' → StepN d H H4 → DN X.prog X.w X.K H4 d (putK kvs k v) → Q () s') : wpAny (model X.prog X.w) X.A (dictSet d (.ref a) r) Q E s := by
  obtain ⟨xs, ep, h1, h2, h3, h4, h5⟩ := h
  have hl := h5.len
  have hsz : (100000 : Nat) ≤ sizeLine := sz_of (Nat.le_refl _)
  refine wpAny_dictSet_heap (knd := nestedKind X.prog X.w) hu.at' ⟨nk_of I k _ _ p rfl, hk.2.1⟩ (kn_of I h1 h4 h5) (fun h' dd' hs => ?_) (hsz := h3)
  obtain ⟨ep', I'⟩ := dn_write (t' := s.toks + (nestedKind X.prog X.w).draws k) I h1 dd' hs
  refine hQ _ _ I' ⟨H, _, _, Ex.refl _, h1, rfl⟩ ⟨_, ep', upd_same, h2, ?_, ?_, (h5.put k hk p rv).tk (TK.upd_ext h1)⟩
  · have := storedH_length xs k a r; omega
  · obtain ⟨_, _, _, _, _, _, _, _, hn⟩ := dd'; exact hn
theorem dcN_core {pins : List (Addr × Obj)} {s : Shared} {σ : L2.St} {H : Hp} {Q : VK} {kx vx tg iter : Expr} {ifs : List Expr} {scope : Scope} {own : List (Str × Nat)} {pos pos' : Pos} {wi : TI} {g : TG} {tt : TT} {tk tv : TE} {use : Option (Value → Sem Unit)} {Qf : Value → Shared → Prop}
    (hu : RoomN X.A) (hc : X.calm = true) (hN : X.N.Nodup) (I : Inv X pins σ H s) (hi : PI X tg iter wi) (ok : BlkOk X.N X.env.scope scope own)
    (hg : ∀ (s : Shared) (H : Hp) (C : Addr) (cl : List (Str × Addr)) (fp : List Addr), PG (X.blk s H scope (compEnvC scope cl C X.env) fp) tg g) (ht : ∀ (s : Shared) (H : Hp) (C : Addr) (cl : List (Str × Addr)) (fp : List Addr), PTs (X.blk s H scope (compEnvC scope cl C X.env) fp) ifs tt)
    (hk : ∀ (s : Shared) (H : Hp) (C : Addr) (cl : List (Str × Addr)) (fp : List Addr), PE (X.blk s H scope (compEnvC scope cl C X.env) fp) kx tk)
    (he : ∀ (s : Shared) (H : Hp) (C : Addr) (cl : List (Str × Addr)) (fp : List Addr), PE (X.blk s H scope (compEnvC scope cl C X.env) fp) vx tv) (hs : ∀ x, foldedSetIterable iter X.env x = pure x)
    (h : tDcN X.prog X.w X.K wi g tt tk tv (own.map (·.2)) σ H Q)
    (hRR : ∀ D C s' m H', Inv X pins σ H' s' → Q (.ref D) H' → s'.heap.Ns C m → FpOk X pins H' C → compPost (model X.prog X.w) X.A X.xe use Qf (.ref D) C (.ok .next) s') :
    wpAny (model X.prog X.w) X.A (comprehension (.DictComp kx vx [⟨tg, iter, ifs, 0⟩] scope pos) scope X.env pos' newDict false (eval iter X.env) use) Qf X.xe s := by
  have hfree : ∀ y ∈ scope.names, y.2 = .free → ∃ c, X.env.cells.lookup y.1 = some c := fun y hy e => by
    rcases ok.free y hy e with k | k
    · exact I.ok.has _ (.inl k)
    · exact I.ok.has _ (.inr k)
  refine wpAny_comprehension_free (use := use) rfl hs (closure_ok hfree) ok.kind (fun y hy e => by rw [ok.uniq y hy, e])
    (thn (hi.run pins s σ H _ I h) fun xv s1 hx => thn hx fun itv s2 h2 => ?_)
  obtain ⟨it, fp, tn, J, H2, e, I2, T, st2, f2, q⟩ := h2
  subst e
  refine wpAny_newObj_type (newEnv_comp ?_)
  generalize hD : s2.heap.objs.size = D
  have hDn : H2 D = none := I2.hok.fresh (Nat.le_of_eq hD)
  have hnew : ObjOk X.prog X.w (upd H2 D (.ext (rawN X.prog X.w D [] 0))) (s2.heap.push { cls := .type "dict", data := .dict #[] }) D (.ext (rawN X.prog X.w D [] 0)) := by
    rw [← hD]; exact ext_ok (raw_new _)
  have hdn : DN X.prog X.w X.K (upd H2 D (.ext (rawN X.prog X.w D [] 0))) D [] := ⟨[], 0, upd_same, by rw [← hD]; exact beq_eq_false_iff_ne.mpr (Ne.symm (Nat.ne_of_lt I2.big)), Nat.zero_le _, List.nodup_nil, .nil⟩
  obtain ⟨W, ⟨m0, w0⟩, turn⟩ := q D _ hDn ⟨_, rfl⟩ hdn
  generalize hs3 : ({ s2 with heap := s2.heap.push { cls := .type "dict", data := .dict #[] } } : Shared) = s3
  have I3 : Inv X pins σ (upd H2 D (.ext (rawN X.prog X.w D [] 0))) s3 := by
    rw [← hs3]
    exact I2.laid (t' := s2.toks) (fun b o e => Heap.get?_push_of_some _ e) (Nat.le_of_eq hD) hnew
  have h3 : s3.heap = s2.heap.push { cls := .type "dict", data := .dict #[] } := by rw [← hs3]
  have sz : ∀ b ∈ fp, b < s2.heap.objs.size := fun b hb => by
    obtain ⟨o, e, _⟩ := T.obj _ _ st2 b hb
    exact Heap.lt_size e
  generalize hH3 : upd H2 D (.ext (rawN X.prog X.w D [] 0)) = H3 at I3 w0 hdn
  have f3 : ∀ b ∈ fp, FpOk X pins H3 b ∧ b < s3.heap.objs.size := fun b hb => by
    have hlt := sz b hb
    refine ⟨⟨?_, (f2 b hb).2⟩, by rw [h3, Heap.size_push]; exact Nat.lt_succ_of_lt hlt⟩
    rw [← hH3, upd_ne (by rw [← hD]; exact Nat.ne_of_lt hlt)]
    exact (f2 b hb).1
  have st3 : tn 0 s3.heap := T.keep _ _ _ st2 fun b _ o e => by rw [h3]; exact Heap.get?_push_of_some _ e
  have I4 := block_start I3 ok hN f3
  have pg := hg s3 H3 s3.heap.objs.size (cellsFrom (s3.heap.objs.size + 1) scope.names (cloFrom X.env.cells scope.names [])) fp
  have pt := ht s3 H3 s3.heap.objs.size (cellsFrom (s3.heap.objs.size + 1) scope.names (cloFrom X.env.cells scope.names [])) fp
  have pk := hk s3 H3 s3.heap.objs.size (cellsFrom (s3.heap.objs.size + 1) scope.names (cloFrom X.env.cells scope.names [])) fp
  have pe := he s3 H3 s3.heap.objs.size (cellsFrom (s3.heap.objs.size + 1) scope.names (cloFrom X.env.cells scope.names [])) fp
  show codeAny _ _ (.compStart (.DictComp kx vx [⟨tg, iter, ifs, 0⟩] scope pos) 0 (.ref it) (.ref D) (compEnvC scope (cellsFrom (s3.heap.objs.size + 1) scope.names (cloFrom X.env.cells scope.names [])) s3.heap.objs.size X.env)) (compPost (model X.prog X.w) X.A X.xe use Qf (.ref D) s3.heap.objs.size) { s3 with heap := pushCells (s3.heap.push { cls := .type "dict", data := .dict #[] }) scope.names }
  have nfp : ∀ b ∈ fp, H3 b = none := fun b hb => (f3 b hb).1.1
  generalize hce : compEnvC scope (cellsFrom (s3.heap.objs.size + 1) scope.names (cloFrom X.env.cells scope.names [])) s3.heap.objs.size X.env = ce at I4 pg pt pk pe ⊢
  have cL : ce.locals = s3.heap.objs.size := by subst hce; rfl
  generalize hs4 : ({ s3 with heap := pushCells (s3.heap.push { cls := .type "dict", data := .dict #[] }) scope.names } : Shared) = s4 at I4 ⊢
  have st4 : tn 0 s4.heap := T.keep _ _ _ st3 fun b _ o e => by rw [← hs4]; exact pushCells_keeps _ _ _ _ (Heap.get?_push_of_some _ e)
  have stat : ∀ {σ' : L2.St} {H' : Hp} {s' : Shared}, Inv (X.blk s3 H3 scope ce fp) [] σ' H' s' → (∀ b ∈ fp, H' b = none) → ∀ b ∈ fp, FpOk (X.blk s3 H3 scope ce fp) [] H' b := fun {σ' H' s'} I' hn b hb =>
    ⟨hn b hb, (I'.ok.exf b hb).1, I'.ok.exfs b hb, .inl hb, fun x c e => (I'.ok.exf b hb).2 x c e, fun p hp => absurd (show p ∈ ([] : List (Addr × Obj)) ++ [] from hp) (by simp)⟩
  have loop : codeAny (model X.prog X.w) X.A (.compLoop (.DictComp kx vx [⟨tg, iter, ifs, 0⟩] scope pos) 0 (.ref it) (.ref D) ce) (compPost (model X.prog X.w) X.A X.xe use Qf (.ref D) s3.heap.objs.size) s4 := by
    refine compLoop_anyD (fun n s' => ∃ i H', Inv (X.blk s3 H3 scope ce fp) [] (wipe σ (own.map (·.2))) H' s' ∧ tn i s'.heap ∧ (∀ b ∈ fp, H' b = none) ∧ W i n H') ?_ m0 ⟨0, H3, I4, st4, nfp, w0⟩
    rintro n s5 ⟨i, H5, I5, st5, n5, w5⟩
    rcases turn i n H5 w5 with ⟨stop, qq⟩ | ⟨go, Nx, hNx, step⟩
    · have td := T.done (X.blk s3 H3 scope ce fp) rfl rfl rfl hc i [] s5 _ H5 (fun _ _ => False) I5 (stat I5 n5) st5 stop
      refine thnF td fun r s6 ⟨hr, I6⟩ => ?_
      subst hr
      have I7 : Inv X pins σ H5 s6 := I3.call' (ch := fp) I6.os I6.base I6.hok I6.bare fun b hb => ⟨(f3 b hb).1.2.2.2.1, (f3 b hb).1.2.1, (f3 b hb).1.2.2.2.2.1, (f3 b hb).1.2.2.2.2.2⟩
      have nC : H5 s3.heap.objs.size = none := by
        have z : H5 ce.locals = none := I6.free
        rw [cL] at z
        exact z
      obtain ⟨m, hn, _⟩ := I6.loc
      have hn : s6.heap.Ns ce.locals m := hn
      rw [cL] at hn
      exact hRR D s3.heap.objs.size s6 m H5 I7 qq hn (I3.fpOk (Nat.le_refl _) nC)
    · have ti := T.item (X.blk s3 H3 scope ce fp) rfl rfl rfl hc i [] s5 _ H5 (fun _ _ => False) I5 (stat I5 n5) st5 go
      refine thnF ti fun r s6 ⟨u, hr, h6⟩ => ?_
      subst hr
      refine thnF h6 fun _ s7 ⟨x, H7, I7, r7, y7, st7, n7⟩ => ?_
      have I7' := I7.pinned (stat I7 n7) (T.obj _ _ st7)
      refine thnF (pg.run _ s7 _ H7 x u _ I7' r7 (step x H7 y7)) fun _ s8 ⟨σ8, H8, I8, hw8, q8⟩ => ?_
      refine thnF (pt.run _ s8 σ8 H8 _ I8 q8) fun b s9 ⟨H9, I9, q9⟩ => ?_
      have fin : ∀ {s' : Shared} {H' : Hp}, Inv (X.blk s3 H3 scope ce fp) ([] ++ pinsAt fp s7.heap) σ8 H' s' → Nx H' → ∃ m, m < n ∧ ∃ i H', Inv (X.blk s3 H3 scope ce fp) [] (wipe σ (own.map (·.2))) H' s' ∧ tn i s'.heap ∧ (∀ b ∈ fp, H' b = none) ∧ W i m H' := fun {s' H'} I' nx => by
        obtain ⟨m', hm, w'⟩ := hNx H' nx
        have pin' : ∀ b ∈ fp, ∀ o, s7.heap.get? b = some o → s'.heap.get? b = some o ∧ H' b = none := fun b hb o e =>
          let z := I'.pin (b, o) (List.mem_append_right _ (List.mem_append_right _ (mem_pinsAt hb e)))
          ⟨z.1, z.2.1⟩
        have hl : (wipe σ (own.map (·.2))).length = σ8.length := by rw [← hw8, wipe_length]
        refine ⟨m', hm, i + 1, H', (I'.unpinned (pins := [])).weak hl (fun j v e => ?_), T.keep _ _ _ st7 fun b hb o e => (pin' b hb o e).1, fun b hb => ?_, w'⟩
        · rw [← hw8] at e
          exact (wipe_some e).1
        · obtain ⟨o, e, _⟩ := T.obj _ _ st7 b hb
          exact (pin' b hb o e).2
      cases b with
      | false =>
        simp only [Bool.false_eq_true, if_false] at q9 ⊢
        exact fin I9 q9
      | true =>
        simp only [if_true] at q9 ⊢
        refine thnF (pk.run _ s9 σ8 H9 _ I9 q9) fun z s10 ⟨yk, H10, I10, r10, q10⟩ => ?_
        refine thnF (pe.run _ s10 σ8 H10 _ I10 q10) fun z2 s11 ⟨yv, H11, I11, r11, kvs, k, hdn11, hk11, p11, hz11, nx⟩ => ?_
        obtain ⟨a, rfl⟩ := keyn_ref hk11 p11
        obtain rfl : z = Value.ref a := r10
        exact dn_dset (X := X.blk s3 H3 scope ce fp) hu I11 hdn11 hk11 p11 hz11 r11 fun H12 s12 I12 st12 dn12 => fin I12 (nx H12 st12 dn12)
  exact codeAny_compStart_dict loop (T.self X.A 0 _ _ _ st4 loop)
theorem pe_dcN {kx vx tg iter : Expr} {ifs : List Expr} {scope : Scope} {own : List (Str × Nat)} {pos : Pos} {wi : TI} {g : TG} {tt : TT} {tk tv : TE} (hu : RoomN X.A) (hc : X.calm = true) (hN : X.N.Nodup) (hi : PI X tg iter wi) (ok : BlkOk X.N X.env.scope scope own)
    (hg : ∀ (s : Shared) (H : Hp) (C : Addr) (cl : List (Str × Addr)) (fp : List Addr), PG (X.blk s H scope (compEnvC scope cl C X.env) fp) tg g) (ht : ∀ (s : Shared) (H : Hp) (C : Addr) (cl : List (Str × Addr)) (fp : List Addr), PTs (X.blk s H scope (compEnvC scope cl C X.env) fp) ifs tt)
    (hk : ∀ (s : Shared) (H : Hp) (C : Addr) (cl : List (Str × Addr)) (fp : List Addr), PE (X.blk s H scope (compEnvC scope cl C X.env) fp) kx tk)
    (he : ∀ (s : Shared) (H : Hp) (C : Addr) (cl : List (Str × Addr)) (fp : List Addr), PE (X.blk s H scope (compEnvC scope cl C X.env) fp) vx tv) (hs : ∀ x, foldedSetIterable iter X.env x = pure x := by intro _; rfl) :
    PE X (.DictComp kx vx [⟨tg, iter, ifs, 0⟩] scope pos) (tDcN X.prog X.w X.K wi g tt tk tv (own.map (·.2))) := by
  refine ⟨fun pins s σ H Q I h => ?_⟩
  rw [arm_eval_DictComp]
  refine dcN_core hu hc hN I hi ok hg ht hk he hs h fun D C s' m H' I' q hn f => ⟨m, hn, fun h'' sb => ?_⟩
  obtain ⟨f0, f1, f2, f3, f4, f5⟩ := f
  exact ⟨.ref D, H', I'.turned (t' := s'.toks) (fun b o hb e => (sb.2 b hb).trans e) f0 f1 f3 f4 f5, rfl, q⟩
end
end BB
/-! M2: lots, plainly: greatest ones, and that a set of greatest lots that is closed under going on holds them all. -/
namespace BB
structure Net where
  n : Nat
  nr : Nat → Nat → Bool
  len : Nat → Nat
  ag : Nat → Nat → Nat → Nat → Bool
abbrev Lt := Nat → Option Nat
namespace Net
variable (N : Net)
structure Ok : Prop where
  symm : ∀ i j, N.nr i j = N.nr j i
  irr : ∀ i, N.nr i i = false
  agsymm : ∀ i a j b, N.ag i a j b = N.ag j b i a
  far : ∀ i a j b, i ≠ j → N.nr i j = false → N.ag i a j b = true
def row (i a : Nat) : Prop := i < N.n ∧ a < N.len i
/-- what is filled -/
def sup (T : Lt) : List Nat := (List.range N.n).filter fun i => (T i).isSome
structure IsLt (T : Lt) : Prop where
  row : ∀ i a, T i = some a → N.row i a
  agree : ∀ i a j b, T i = some a → T j = some b → i ≠ j → N.ag i a j b = true
  conn : ∃ s, (T s).isSome = true ∧ ∀ x, (T x).isSome = true → Rch N.nr (N.sup T) s x
def Le (T U : Lt) : Prop := ∀ i a, T i = some a → U i = some a
structure Mx (T : Lt) : Prop where
  lot : N.IsLt T
  max : ∀ U, N.IsLt U → Le T U → U = T
/-- nothing that fits stands beside -/
def Sat (T : Lt) : Prop := ∀ s t, N.row s t → T s = none → (∃ o, o < N.n ∧ N.nr s o = true ∧ (T o).isSome = true) → ∃ o u, N.nr s o = true ∧ T o = some u ∧ N.ag o u s t = false
/-- the rows of T that go with the row t of s -/
def alw (T : Lt) (s t : Nat) (o : Nat) : Bool := !decide (o = s) && match T o with | none => false | some u => !N.nr o s || N.ag o u s t
def alwL (T : Lt) (s t : Nat) : List Nat := (List.range N.n).filter (N.alw T s t)
variable {N}
theorem mem_sup {T : Lt} (h : N.IsLt T) {x : Nat} : x ∈ N.sup T ↔ (T x).isSome = true := by
  unfold sup
  rw [List.mem_filter, List.mem_range]
  constructor
  · exact fun h => h.2
  · intro hx
    obtain ⟨a, ha⟩ := Option.isSome_iff_exists.mp hx
    exact ⟨(h.row x a ha).1, hx⟩
/-- any reaches any -/
theorem IsLt.reach (ok : N.Ok) {T : Lt} (h : N.IsLt T) {x y : Nat} (hx : (T x).isSome = true) (hy : (T y).isSome = true) : Rch N.nr (N.sup T) x y := by
  obtain ⟨s, hs, hall⟩ := h.conn
  exact ((hall x hx).symm ok.symm ((mem_sup h).mpr hs)).trans (hall y hy)
/-- the first step out of C -/
theorem exit_of {nr : Nat → Nat → Bool} {g : List Nat} {C : Nat → Prop} {s : Nat} (hs : C s) {y : Nat} (r : Rch nr g s y) (hy : ¬ C y) : ∃ o x, C o ∧ x ∈ g ∧ ¬ C x ∧ nr o x = true := by
  induction r with
  | base => exact absurd hs hy
  | @step z x r hx hn ih =>
    by_cases hz : C z
    · exact ⟨z, x, hz, hx, hy, hn⟩
    · exact ih hz
theorem Sat.mx (ok : N.Ok) {T : Lt} (h : N.IsLt T) (hs : N.Sat T) : N.Mx T := by
  refine ⟨h, fun U hU hle => ?_⟩
  refine Classical.byContradiction fun hne => ?_
  obtain ⟨s0, hs0, _⟩ := h.conn
  obtain ⟨a0, ha0⟩ := Option.isSome_iff_exists.mp hs0
  have hy : ∃ y, (U y).isSome = true ∧ ¬ (T y).isSome = true := Classical.byContradiction fun q => hne (funext fun x => by
    cases hu : U x with
    | none =>
      cases ht : T x with
      | none => rfl
      | some a => rw [hle x a ht] at hu; cases hu
    | some b =>
      have : (T x).isSome = true := Classical.byContradiction fun z => q ⟨x, by rw [hu]; rfl, z⟩
      obtain ⟨a, ha⟩ := Option.isSome_iff_exists.mp this
      rw [hle x a ha] at hu; rw [ha, ← hu])
  obtain ⟨y, hUy, hTy⟩ := hy
  have hUs0 : (U s0).isSome = true := by rw [hle s0 a0 ha0]; rfl
  obtain ⟨o, x, ho, hx, hxT, hn⟩ := exit_of (C := fun z => (T z).isSome = true) hs0 (hU.reach ok hUs0 hUy) hTy
  have hUx := (mem_sup hU).mp hx
  obtain ⟨t, ht⟩ := Option.isSome_iff_exists.mp hUx
  have hTx : T x = none := by cases q : T x with
    | none => rfl
    | some _ => rw [q] at hxT; exact absurd rfl hxT
  obtain ⟨u0, hu0⟩ := Option.isSome_iff_exists.mp ho
  obtain ⟨o', u, hn', hu, hag⟩ := hs x t (hU.row x t ht) hTx ⟨o, (h.row o u0 hu0).1, by rw [ok.symm]; exact hn, ho⟩
  have hne' : o' ≠ x := fun e => by rw [e, hTx] at hu; cases hu
  have := hU.agree o' u x t (hle o' u hu) ht hne'
  rw [hag] at this; cases this
theorem nodup_le : ∀ {n : Nat} {C : List Nat}, C.Nodup → (∀ x ∈ C, x < n) → C.length ≤ n
  | 0, [], _, _ => Nat.le_refl _
  | 0, x :: C, _, h => absurd (h x List.mem_cons_self) (Nat.not_lt_zero _)
  | n + 1, C, hn, h => by
    by_cases hm : n ∈ C
    · have h1 := nodup_le (n := n) (C := C.erase n) (hn.erase n) fun x hx => by
        have hx' := (List.Nodup.mem_erase_iff hn).mp hx
        have := h x hx'.2
        omega
      rw [List.length_erase_of_mem hm] at h1
      omega
    · have h1 := nodup_le (n := n) (C := C) hn fun x hx => by
        have := h x hx
        have : x ≠ n := fun e => hm (e ▸ hx)
        omega
      omega
/-- closed sets of greatest lots hold all -/
theorem all_in (ok : N.Ok) (F : Lt → Prop) (h1 : ∀ T, F T → N.Mx T) (h2 : ∀ i a, N.row i a → ∃ T, F T ∧ T i = some a)
    (h3 : ∀ T, F T → ∀ o u s t, T o = some u → N.nr o s = true → N.row s t → N.ag o u s t = true → T s ≠ some t → ∃ G, F G ∧ G s = some t ∧ ∀ x, x ≠ s → Rch N.nr (N.alwL T s t) s x → G x = T x)
    {M : Lt} (hM : N.Mx M) : F M := by
  have key : ∀ k, ∀ T C, F T → C.Nodup → (∀ x ∈ C, (M x).isSome = true ∧ T x = M x) → (∃ s ∈ C, ∀ x ∈ C, Rch N.nr C s x) → N.n - C.length = k → F M := by
    intro k
    induction k using Nat.strongRecOn with
    | ind k ih =>
      intro T C hT hnd hC hcon hk
      have hCn : ∀ x ∈ C, x < N.n := fun x hx => by
        obtain ⟨a, ha⟩ := Option.isSome_iff_exists.mp (hC x hx).1
        exact (hM.lot.row x a ha).1
      by_cases hall : ∀ y, (M y).isSome = true → y ∈ C
      · have hle : Le M T := fun i a hi => by rw [(hC i (hall i (by rw [hi]; rfl))).2]; exact hi
        rw [← hM.max T (h1 T hT).lot hle]
        exact hT
      · obtain ⟨y, hy⟩ := Classical.not_forall.mp hall
        obtain ⟨hyM, hyC⟩ := Classical.not_imp.mp hy
        obtain ⟨s, hs, hreach⟩ := hcon
        obtain ⟨o, x, ho, hx, hxC, hn⟩ := exit_of (C := fun z => z ∈ C) hs (hM.lot.reach ok (hC s hs).1 hyM) hyC
        have hMx := (mem_sup hM.lot).mp hx
        obtain ⟨b, hb⟩ := Option.isSome_iff_exists.mp hMx
        obtain ⟨u, hu⟩ := Option.isSome_iff_exists.mp (hC o ho).1
        have hox : o ≠ x := fun e => hxC (e ▸ ho)
        have hTo : T o = some u := by rw [(hC o ho).2, hu]
        have hag := hM.lot.agree o u x b hu hb hox
        have hxn : x < N.n := (hM.lot.row x b hb).1
        have hnd' : (x :: C).Nodup := List.nodup_cons.mpr ⟨hxC, hnd⟩
        have hlen := nodup_le hnd' (fun z hz => by rcases List.mem_cons.mp hz with e | hz; exact e ▸ hxn; exact hCn z hz)
        have hcon' : ∃ s ∈ x :: C, ∀ z ∈ x :: C, Rch N.nr (x :: C) s z := by
          refine ⟨s, List.mem_cons_of_mem _ hs, fun z hz => ?_⟩
          rcases List.mem_cons.mp hz with e | hz
          · subst e
            exact .step ((hreach o ho).mono fun w hw => List.mem_cons_of_mem _ hw) List.mem_cons_self hn
          · exact (hreach z hz).mono fun w hw => List.mem_cons_of_mem _ hw
        rw [List.length_cons] at hlen
        by_cases hTx : T x = some b
        · refine ih (N.n - (x :: C).length) ?_ T (x :: C) hT hnd' (fun z hz => ?_) hcon' rfl
          · rw [List.length_cons]; omega
          · rcases List.mem_cons.mp hz with e | hz
            · subst e; exact ⟨hMx, by rw [hTx, hb]⟩
            · exact hC z hz
        · obtain ⟨G, hG, hGx, hGr⟩ := h3 T hT o u x b hTo hn (hM.lot.row x b hb) hag hTx
          have hsub : ∀ z ∈ C, z ∈ N.alwL T x b := fun z hz => by
            obtain ⟨w, hw⟩ := Option.isSome_iff_exists.mp (hC z hz).1
            have hzx : z ≠ x := fun e => hxC (e ▸ hz)
            refine List.mem_filter.mpr ⟨List.mem_range.mpr (hCn z hz), ?_⟩
            unfold alw
            rw [(hC z hz).2, hw, decide_eq_false hzx]
            show (!N.nr z x || N.ag z w x b) = true
            rw [hM.lot.agree z w x b hw hb hzx, Bool.or_true]
          refine ih (N.n - (x :: C).length) ?_ G (x :: C) hG hnd' (fun z hz => ?_) hcon' rfl
          · rw [List.length_cons]; omega
          · rcases List.mem_cons.mp hz with e | hz
            · subst e; exact ⟨hMx, by rw [hGx, hb]⟩
            · refine ⟨(hC z hz).1, ?_⟩
              rw [hGr z (fun e => hxC (e ▸ hz)) ?_]
              · exact (hC z hz).2
              · have r1 : Rch N.nr (N.alwL T x b) x o := .step .base (hsub o ho) (by rw [ok.symm]; exact hn)
                have r2 : Rch N.nr C o z := ((hreach o ho).symm ok.symm hs).trans (hreach z hz)
                exact r1.trans (r2.mono hsub)
  obtain ⟨s0, hs0, _⟩ := hM.lot.conn
  obtain ⟨a0, ha0⟩ := Option.isSome_iff_exists.mp hs0
  obtain ⟨T, hT, hTs⟩ := h2 s0 a0 (hM.lot.row s0 a0 ha0)
  refine key _ T [s0] hT (by simp) (fun x hx => ?_) ⟨s0, by simp, fun x hx => ?_⟩ rfl
  · rw [List.mem_singleton.mp hx]; exact ⟨hs0, by rw [hTs, ha0]⟩
  · rw [List.mem_singleton.mp hx]; exact .base
/-- a single row is a lot -/
theorem one_lot {s t : Nat} (h : N.row s t) : N.IsLt fun i => if i = s then some t else none := by
  have hx : ∀ i a, (if i = s then some t else none : Option Nat) = some a → i = s ∧ a = t := fun i a e => by
    by_cases q : i = s
    · rw [if_pos q] at e; cases e; exact ⟨q, rfl⟩
    · rw [if_neg q] at e; cases e
  refine ⟨fun i a e => ?_, fun i a j b e e' hne => ?_, s, by simp, fun x e => ?_⟩
  · obtain ⟨rfl, rfl⟩ := hx i a e; exact h
  · obtain ⟨rfl, _⟩ := hx i a e
    obtain ⟨rfl, _⟩ := hx j b e'
    exact absurd rfl hne
  · obtain ⟨a, ha⟩ := Option.isSome_iff_exists.mp e
    obtain ⟨rfl, _⟩ := hx x a ha
    exact .base
/-- one more row beside a lot that it fits is a lot -/
theorem add_lot (ok : N.Ok) {T : Lt} (h : N.IsLt T) {s t : Nat} (hr : N.row s t) (hs : T s = none) (hn : ∃ o, N.nr s o = true ∧ (T o).isSome = true) (hag : ∀ o u, T o = some u → N.nr s o = true → N.ag o u s t = true) : N.IsLt fun i => if i = s then some t else T i := by
  have hag' : ∀ j b, T j = some b → N.ag j b s t = true := fun j b hj => by
    have hjs : j ≠ s := fun e => by rw [e, hs] at hj; cases hj
    cases q : N.nr s j with
    | true => exact hag j b hj q
    | false => exact ok.far j b s t hjs (by rw [ok.symm]; exact q)
  refine ⟨fun i a e => ?_, fun i a j b e e' hne => ?_, ?_⟩
  · by_cases q : i = s
    · subst q; rw [if_pos rfl] at e; cases e; exact hr
    · rw [if_neg q] at e; exact h.row i a e
  · by_cases q : i = s
    · subst q
      rw [if_pos rfl] at e; cases e
      rw [if_neg (Ne.symm hne)] at e'
      rw [ok.agsymm]; exact hag' j b e'
    · rw [if_neg q] at e
      by_cases q2 : j = s
      · subst q2
        rw [if_pos rfl] at e'; cases e'
        exact hag' i a e
      · rw [if_neg q2] at e'
        exact h.agree i a j b e e' hne
  · obtain ⟨r, hrt, hall⟩ := h.conn
    obtain ⟨o, hno, ho⟩ := hn
    have hsub : ∀ x ∈ N.sup T, x ∈ N.sup fun i => if i = s then some t else T i := fun x hx => by
      obtain ⟨h1, h2⟩ := List.mem_filter.mp hx
      refine List.mem_filter.mpr ⟨h1, ?_⟩
      show (if x = s then some t else T x).isSome = true
      by_cases q : x = s
      · rw [if_pos q]; rfl
      · rw [if_neg q]; exact h2
    refine ⟨r, ?_, fun x hx => ?_⟩
    · show (if r = s then some t else T r).isSome = true
      by_cases q : r = s
      · rw [if_pos q]; rfl
      · rw [if_neg q]; exact hrt
    · by_cases q : x = s
      · subst q
        refine .step ((hall o ho).mono hsub) (List.mem_filter.mpr ⟨List.mem_range.mpr hr.1, by simp⟩) (by rw [ok.symm]; exact hno)
      · have hx' : (if x = s then some t else T x).isSome = true := hx
        rw [if_neg q] at hx'
        exact (hall x hx').mono hsub
end Net
end BB
/-! K8: lots as dicts, the object of what fits what. -/
namespace BB
open PySem L2 Evl
/-! ### rules with the program, the world and the written part by name -/
section
variable {X : Cx} {P : Program} {w : World} {K : PySem.W.Frag} {o i e : Expr} {pos : Pos} {td ty te : TE}
theorem getNK (hu : RoomN X.A) (ho : PE X o td) (hi : PE X i ty) (hs : NoSl i) (hP : X.prog = P := by rfl) (hw : X.w = w := by rfl) (hK : X.K = K := by rfl) : PE X (.Subscript o i pos) (tGetN P w K td ty) := hP ▸ hw ▸ hK ▸ pe_getN hu ho hi hs
theorem inNK (hu : RoomN X.A) (hP : X.prog = P := by rfl) (hw : X.w = w := by rfl) (hK : X.K = K := by rfl) : OpR X (compareOp .In) (rInN P w K) := hP ▸ hw ▸ hK ▸ op_inN hu
theorem niNK (hu : RoomN X.A) (hP : X.prog = P := by rfl) (hw : X.w = w := by rfl) (hK : X.K = K := by rfl) : OpR X (compareOp .NotIn) (rNiN P w K) := hP ▸ hw ▸ hK ▸ op_niN hu
theorem newNK (hP : X.prog = P := by rfl) (hw : X.w = w := by rfl) (hK : X.K = K := by rfl) : PE X (.Dict [] [] pos) (tNewN P w K) := hP ▸ hw ▸ hK ▸ pe_newN
theorem lenNK (hP : X.prog = P := by rfl) (hw : X.w = w := by rfl) (hK : X.K = K := by rfl) : CallR X (.builtin "len") (rLenN P w K) := hP ▸ hw ▸ hK ▸ call_lenN
theorem listNK (hc : X.calm = true) (hP : X.prog = P := by rfl) (hw : X.w = w := by rfl) (hK : X.K = K := by rfl) : CallR X (.type "list") (rListN P w K) := hP ▸ hw ▸ hK ▸ call_listN hc
theorem updNK (hu : RoomN X.A) (hP : X.prog = P := by rfl) (hw : X.w = w := by rfl) (hK : X.K = K := by rfl) : MtR X "dict.update" (rUpdN P w K) := hP ▸ hw ▸ hK ▸ mt_updN hu
theorem keysNK {tg : Expr} (he : PE X e td) (hP : X.prog = P := by rfl) (hw : X.w = w := by rfl) : PI X tg e (iKeysN P w td) := hP ▸ hw ▸ pi_keysN he
theorem putNK {value : Expr} {pos' : Pos} {tv : TE} (hu : RoomN X.A) (ho : PE X o td) (hi : PE X i ty) (hv : PE X value tv) (hs : swapsWith value (some (.Subscript o i pos')) pos.line X.env = pure false := by rfl) (hP : X.prog = P := by rfl) (hw : X.w = w := by rfl) (hK : X.K = K := by rfl) :
    PS X (.Assign [.Subscript o i pos'] value pos) (sPutN P w K td ty tv) := hP ▸ hw ▸ hK ▸ ps_putN hu ho hi hv hs
theorem dcNK {kx vx tg iter : Expr} {ifs : List Expr} {scope : Scope} {own : List (Str × Nat)} {wi : TI} {g : TG} {tt : TT} {tk tv : TE} (hu : RoomN X.A) (hc : X.calm = true) (hN : X.N.Nodup) (hi : PI X tg iter wi) (ok : BlkOk X.N X.env.scope scope own)
    (hg : ∀ (s : Shared) (H : Hp) (C : Addr) (cl : List (Str × Addr)) (fp : List Addr), PG (X.blk s H scope (compEnvC scope cl C X.env) fp) tg g) (ht : ∀ (s : Shared) (H : Hp) (C : Addr) (cl : List (Str × Addr)) (fp : List Addr), PTs (X.blk s H scope (compEnvC scope cl C X.env) fp) ifs tt)
    (hk : ∀ (s : Shared) (H : Hp) (C : Addr) (cl : List (Str × Addr)) (fp : List Addr), PE (X.blk s H scope (compEnvC scope cl C X.env) fp) kx tk)
    (he : ∀ (s : Shared) (H : Hp) (C : Addr) (cl : List (Str × Addr)) (fp : List Addr), PE (X.blk s H scope (compEnvC scope cl C X.env) fp) vx tv) (hs : ∀ x, foldedSetIterable iter X.env x = pure x := by intro _; rfl)
    (hP : X.prog = P := by rfl) (hw : X.w = w := by rfl) (hK : X.K = K := by rfl) : PE X (.DictComp kx vx [⟨tg, iter, ifs, 0⟩] scope pos) (tDcN P w K wi g tt tk tv (own.map (·.2))) := hP ▸ hw ▸ hK ▸ pe_dcN hu hc hN hi ok hg ht hk he hs
/-- d.update(e) -/
def tUpdN (P : Program) (w : World) (K : PySem.W.Frag) (td te : TE) : TE := fun σ H Q => td σ H fun x H1 => ∃ d kvs, x = .ref d ∧ DN P w K H1 d kvs ∧ te σ H1 fun y H2 => rUpdN P w K x [y] H2 Q
theorem pe_updN {apos cpos : Pos} (hu : RoomN X.A) (ho : PE X o td) (he : PE X e te) (m : M1 X o "update" apos e cpos) (hP : X.prog = P := by rfl) (hw : X.w = w := by rfl) (hK : X.K = K := by rfl) : PE X (.Call (.Attribute o "update" apos) [e] [] cpos) (tUpdN P w K td te) := by
  subst hP hw hK
  refine ⟨fun pins s σ H Q I h => ?_⟩
  refine wpAny_Call_method m.base m.few m.line PySem.F.plainAttrs_dict PySem.F.slot_dict_update PySem.F.type_dict_update (thn (ho.run pins s σ H _ I h) fun u s1 ⟨x, H1, I1, rx, d, kvs, ex, ⟨xs, ep, h1, h2, h3, h4, h5⟩, q1⟩ => ?_)
  subst ex
  obtain rfl : u = Value.ref d := rx
  obtain ⟨⟨ob, es, g1, g2, g3, g4⟩, _⟩ := I1.hok d _ h1
  refine ⟨⟨ob, g1, g2.1⟩, fun a ea => by cases ea; exact ⟨ob, g1, g2.2.1⟩, ?_⟩
  rw [m.trees]
  refine Calls.callWith_builtin rfl (Calls.evalArgs_plain (Calls.spliced_cons (thn (he.run pins s1 σ H1 _ I1 q1) fun iv s2 ⟨y, H2, I2, ry, q2⟩ => Calls.spliced_nil ?_)))
  exact mt_updN hu pins s2 σ H2 (.ref d) [y] (.ref d) [iv] Q I2 rfl (.cons ry .nil) q2
/-- len of a dict of ints -/
def rLenD : List V → Hp → VK → Prop := fun vs H Q => ∃ (a : Addr) (kvs : List (Key × V)), vs = [.ref a] ∧ Rd H a (.dK kvs) ∧ Q (.int (kvs.length : Nat)) H
theorem call_lenD : CallR X (.builtin "len") rLenD := by
  intro pins s σ H vs us Q I r h
  obtain ⟨a, kvs, rfl, e, q⟩ := h
  obtain ⟨u, rfl, rx⟩ := vals1 r
  obtain rfl : u = .ref a := rx
  exact d_len I e fun t s' I' => ⟨.int (kvs.length : Nat), H, I', ⟨t, rfl⟩, q⟩
end
/-! ### what is kept but dicts of ints -/
def NX (H H' : Hp) : Prop := ∀ a o, H a = some o → (∀ kvs, o ≠ .dK kvs) → H' a = some o
theorem NX.of_ex {H H' : Hp} (e : Ex H H') : NX H H' := fun a o h _ => e a o h
theorem NX.trans {H H1 H2 : Hp} (a : NX H H1) (b : NX H1 H2) : NX H H2 := fun p o h n => b p o (a p o h n) n
theorem NX.upd {H : Hp} {d : Addr} {kvs : List (Key × V)} {o : HO} (h : H d = some (.dK kvs)) : NX H (upd H d o) := fun a u e n => by
  have : a ≠ d := fun z => by rw [z, h] at e; cases e; exact n kvs rfl
  rw [upd_ne this]; exact e
theorem NX.rd {H H' : Hp} {a : Addr} {u : HO} (e : NX H H') (h : Rd H a u) (hn : ∀ kvs, u ≠ .dK kvs) : Rd H' a u := by
  rcases h with h | ⟨o, h⟩
  · exact .inl (e a u h hn)
  · exact .inr ⟨o, e a _ h (fun kvs z => nomatch z)⟩
theorem NX.tk {H H' : Hp} (e : NX H H') : TK H H' := fun a xs h => e.rd h fun _ z => nomatch z
theorem nx_l {K : PySem.W.Frag} {H H' : Hp} {a : Addr} {xs : List V} (e : NX H H') (h : SqL K H a xs) : SqL K H' a xs := h.imp (fun r => e.rd r fun _ z => nomatch z) id
theorem nx_t {K : PySem.W.Frag} {H H' : Hp} {a : Addr} {xs : List V} (e : NX H H') (h : SqT K H a xs) : SqT K H' a xs := h.imp (fun r => e.rd r fun _ z => nomatch z) id
mutual
theorem dp_nx {K : PySem.W.Frag} {H H' : Hp} (e : NX H H') : ∀ (d : PyData) (v : V), Dp K H v d → Dp K H' v d
  | _, _, .non => .non
  | _, _, .bl b => .bl b
  | _, _, .int i => .int i
  | _, _, .str x => .str x
  | .list ds, _, .lst h a => .lst (nx_l e h) (dpa_nx e ds _ a)
  | .tuple ds, _, .tup h a => .tup (nx_t e h) (dpa_nx e ds _ a)
theorem dpa_nx {K : PySem.W.Frag} {H H' : Hp} (e : NX H H') : ∀ (ds : List PyData) (vs : List V), DpAll K H vs ds → DpAll K H' vs ds
  | [], _, .nil => .nil
  | d :: ds, _, .cons h t => .cons (dp_nx e d _ h) (dpa_nx e ds _ t)
end
theorem BkN.nx {H H' : Hp} {v : V} {B : List (List Int)} (h : BkN H v B) (e : NX H H') : BkN H' v B := by
  obtain ⟨a, xs, rfl, h1, h2, h3⟩ := h
  refine ⟨a, xs, rfl, e.rd h1 (fun _ z => nomatch z), h2, fun i s hs => ?_⟩
  obtain ⟨p, h4, o, h5, h6⟩ := h3 i s hs
  exact ⟨p, h4, o, e _ _ h5 (fun _ z => nomatch z), h6⟩
theorem DN.nx {P : Program} {w : World} {K : PySem.W.Frag} {H H' : Hp} {d : Addr} {kvs : List (NestedKey × V)} (h : DN P w K H d kvs) (e : NX H H') : DN P w K H' d kvs := h.tk e.tk (by let ⟨xs, ep, h1, _⟩ := h; rw [h1]; exact e _ _ h1 fun _ z => nomatch z)
/-! ### lots -/
abbrev Lot := List (Nat × Nat)
def look (L : Lot) (s : Nat) : Option Nat := (L.find? fun p => decide (p.1 = s)).map (·.2)
def lotK (L : Lot) : List (Key × V) := L.map fun p => (Sum.inl (p.1 : Int), V.int (p.2 : Int))
theorem look_nil (s : Nat) : look [] s = none := rfl
theorem look_cons {p : Nat × Nat} {L : Lot} {s : Nat} : look (p :: L) s = if p.1 = s then some p.2 else look L s := by
  unfold look
  rw [List.find?_cons]
  by_cases h : p.1 = s
  · rw [if_pos h, decide_eq_true h]; rfl
  · rw [if_neg h, decide_eq_false h]
theorem look_app {L : Lot} {s t x : Nat} (h : look L s = none) : look (L ++ [(s, t)]) x = if x = s then some t else look L x := by
  induction L with
  | nil =>
    rw [List.nil_append, look_cons, look_nil]
    by_cases q : x = s
    · rw [if_pos q, if_pos q.symm]
    · rw [if_neg q, if_neg (Ne.symm q)]
  | cons p L ih =>
    rw [look_cons] at h
    by_cases q : p.1 = s
    · rw [if_pos q] at h; cases h
    · rw [if_neg q] at h
      rw [List.cons_append, look_cons, look_cons, ih h]
      by_cases q2 : p.1 = x
      · rw [if_pos q2, if_pos q2, if_neg (fun e => q (q2.trans e))]
      · rw [if_neg q2, if_neg q2]
theorem look_none {L : Lot} {s : Nat} : look L s = none ↔ ∀ p ∈ L, p.1 ≠ s := by
  unfold look
  rw [Option.map_eq_none_iff, List.find?_eq_none]
  exact ⟨fun h p hp e => h p hp (decide_eq_true e), fun h p hp e => h p hp (of_decide_eq_true e)⟩
theorem look_mem {L : Lot} {s u : Nat} (h : look L s = some u) : (s, u) ∈ L := by
  unfold look at h
  obtain ⟨p, h1, h2⟩ := Option.map_eq_some_iff.mp h
  have h3 := List.find?_some h1
  have h4 := List.mem_of_find?_eq_some h1
  have : p = (s, u) := by rw [← h2, ← of_decide_eq_true h3]
  exact this ▸ h4
theorem look_of_mem {L : Lot} (hn : (L.map (·.1)).Nodup) {s u : Nat} (h : (s, u) ∈ L) : look L s = some u := by
  induction L with
  | nil => cases h
  | cons p L ih =>
    rw [List.map_cons, List.nodup_cons] at hn
    rw [look_cons]
    rcases List.mem_cons.mp h with e | h
    · rw [← e, if_pos rfl]
    · have : p.1 ≠ s := fun e => hn.1 (e ▸ List.mem_map.mpr ⟨(s, u), h, rfl⟩)
      rw [if_neg this]; exact ih hn.2 h
theorem lotK_val (L : Lot) (s : Nat) : valV (lotK L) (Sum.inl (s : Int)) = (look L s).map fun (u : Nat) => V.int (u : Int) := by
  induction L with
  | nil => rfl
  | cons p L ih =>
    show valV ((Sum.inl (p.1 : Int), V.int (p.2 : Int)) :: lotK L) _ = _
    rw [look_cons]
    by_cases h : p.1 = s
    · rw [valV_pos (show (Sum.inl (p.1 : Int) : Key) = Sum.inl (s : Int) by rw [h]), if_pos h]; rfl
    · rw [valV_neg (fun e => h (by have : (p.1 : Int) = (s : Int) := Sum.inl.inj e; omega)), if_neg h]; exact ih
theorem lotK_put {L : Lot} {s t : Nat} (h : look L s = none) : putK (lotK L) (Sum.inl (s : Int)) (V.int (t : Int)) = lotK (L ++ [(s, t)]) := by
  rw [putK_new _ (by rw [lotK_val, h]; rfl)]
  unfold lotK
  rw [List.map_append]; rfl
theorem lotK_len (L : Lot) : (lotK L).length = L.length := List.length_map ..
/-- the lot at v -/
def LotV (H : Hp) (v : V) (L : Lot) : Prop := ∃ a, v = .ref a ∧ Rd H a (.dK (lotK L)) ∧ (L.map (·.1)).Nodup
theorem LotV.ex {H H' : Hp} {v : V} {L : Lot} (h : LotV H v L) (e : Ex H H') : LotV H' v L := let ⟨a, h1, h2, h3⟩ := h; ⟨a, h1, ex_rd e h2, h3⟩
section
variable {K : PySem.W.Frag} {σ : L2.St} {H H' : Hp} {td ty te : TE} {v : V} {L : Lot} {s i : Nat}
theorem ed_dIn (hs : ED K ty σ H (nD s)) (hv : σ[i]? = some (some v)) (hL : LotV H v L) : ED K (tDIn ty (tVar i)) σ H (.bool (look L s).isSome) := fun H1 e Q q =>
  hs H1 e _ fun y H2 e2 py => by
    obtain ⟨a, rfl, h1, h2⟩ := hL
    refine ⟨_, hv, a, valV (lotK L) (Sum.inl (s : Int)), rfl, .inl ⟨lotK L, Sum.inl (s : Int), ex_rd (e.trans e2) h1, dp_int py, rfl⟩, ?_⟩
    rw [lotK_val, Option.isSome_map]
    exact q _ H2 e2 (.bl _)
theorem ed_dNotIn (hs : ED K ty σ H (nD s)) (hv : σ[i]? = some (some v)) (hL : LotV H v L) : ED K (tDNotIn ty (tVar i)) σ H (.bool (!(look L s).isSome)) := fun H1 e Q q =>
  hs H1 e _ fun y H2 e2 py => by
    obtain ⟨a, rfl, h1, h2⟩ := hL
    refine ⟨_, hv, a, valV (lotK L) (Sum.inl (s : Int)), rfl, .inl ⟨lotK L, Sum.inl (s : Int), ex_rd (e.trans e2) h1, dp_int py, rfl⟩, ?_⟩
    rw [lotK_val, Option.isSome_map]
    exact q _ H2 e2 (.bl _)
theorem ed_dGet {u : Nat} (hv : σ[i]? = some (some v)) (hL : LotV H v L) (hs : ED K ty σ H (nD s)) (hu : look L s = some u) : ED K (tDGet (tVar i) ty) σ H (nD u) := fun H1 e Q q =>
  ⟨v, hv, hs H1 e _ fun y H2 e2 py => by
    obtain ⟨a, rfl, h1, h2⟩ := hL
    exact ⟨a, .int (u : Int), rfl, .inl ⟨lotK L, Sum.inl (s : Int), ex_rd (e.trans e2) h1, dp_int py, by rw [lotK_val, hu]; rfl⟩, q _ H2 e2 (.int _)⟩⟩
theorem ed_dGet1 (hv : σ[i]? = some (some v)) (hL : LotV H v L) (hs : ED K ty σ H (nD s)) : ED K (tDGet1 (tVar i) ty) σ H (tagD (look L s)) := fun H1 e Q q => by
  obtain ⟨a, rfl, h1, h2⟩ := hL
  refine ⟨_, hv, a, rfl, .inl ⟨_, ex_rd e h1⟩, hs H1 e _ fun y H2 e2 py => ⟨_, .inl ⟨lotK L, Sum.inl (s : Int), ex_rd (e.trans e2) h1, dp_int py, rfl⟩, ?_⟩⟩
  rw [lotK_val]
  cases hl : look L s with
  | none => exact q _ H2 e2 (by rw [hl]; exact .non)
  | some u => exact q _ H2 e2 (by rw [hl]; exact .int _)
end
/-! ### rows as keys -/
def rowK (s t : Nat) : NestedKey := .tup [.num (s : Int), .num (t : Int)]
abbrev rowD (s t : Nat) : PyData := .tuple [nD s, nD t]
theorem rowK_data (s t : Nat) : (rowK s t).data = rowD s t := rfl
theorem rowK_key (s t : Nat) : KeyN (rowK s t) := ⟨⟨_, rfl⟩, by simp [rowK, NestedKey.depth, NestedKey.depthAll], rfl⟩
theorem rowK_inj {s t s' t' : Nat} (h : rowK s t = rowK s' t') : s = s' ∧ t = t' := by
  unfold rowK at h
  injection h with h
  injection h with h1 h2
  injection h1 with h1
  injection h2 with h2 _
  injection h2 with h2
  exact ⟨by omega, by omega⟩
def net (B : List (List Int)) (R : List (List (List Int))) : Net := ⟨B.length, nearB B, fun i => (R.getD i []).length, agreeB B R⟩
theorem nearB_iff {B : List (List Int)} {i j : Nat} : nearB B i j = true ↔ i ≠ j ∧ ∃ c, c ∈ B.getD i [] ∧ c ∈ B.getD j [] := by
  unfold nearB
  rw [Bool.and_eq_true]
  constructor
  · rintro ⟨h1, h2⟩
    refine ⟨fun e => (by rw [decide_eq_true e] at h1; cases h1), ?_⟩
    cases hc : commonI B i j with
    | nil => rw [hc] at h2; cases h2
    | cons c l => exact ⟨c, commonI_mem.mp (by rw [hc]; exact List.mem_cons_self)⟩
  · rintro ⟨h1, c, h2⟩
    refine ⟨by rw [decide_eq_false h1]; rfl, ?_⟩
    have := commonI_mem.mpr h2
    cases hc : commonI B i j with
    | nil => rw [hc] at this; cases this
    | cons c l => rfl
theorem net_ok (B : List (List Int)) (R : List (List (List Int))) : (net B R).Ok where
  symm := fun i j => by
    show nearB B i j = nearB B j i
    rw [Bool.eq_iff_iff, nearB_iff, nearB_iff]
    exact ⟨fun ⟨h, c, h1, h2⟩ => ⟨Ne.symm h, c, h2, h1⟩, fun ⟨h, c, h1, h2⟩ => ⟨Ne.symm h, c, h2, h1⟩⟩
  irr := fun i => by
    show nearB B i i = false
    cases h : nearB B i i with
    | false => rfl
    | true => exact absurd rfl (nearB_iff.mp h).1
  agsymm := fun i a j b => by
    show agreeB B R i a j b = agreeB B R j b i a
    unfold agreeB
    rw [Bool.eq_iff_iff, List.all_eq_true, List.all_eq_true]
    constructor
    · intro h c hc
      have hc' := commonI_mem.mp hc
      have := of_decide_eq_true (h c (commonI_mem.mpr ⟨hc'.2, hc'.1⟩))
      exact decide_eq_true this.symm
    · intro h c hc
      have hc' := commonI_mem.mp hc
      have := of_decide_eq_true (h c (commonI_mem.mpr ⟨hc'.2, hc'.1⟩))
      exact decide_eq_true this.symm
  far := fun i a j b hne h => by
    show agreeB B R i a j b = true
    unfold agreeB
    rw [List.all_eq_true]
    intro c hc
    have : nearB B i j = true := nearB_iff.mpr ⟨hne, c, commonI_mem.mp hc⟩
    have h : nearB B i j = false := h
    rw [h] at this; cases this
/-- the row b of j is held beside the row a of i -/
def nearRB (B : List (List Int)) (R : List (List (List Int))) (i a j b : Nat) : Bool := nearB B i j && (decide (j < B.length) && (decide (b < (R.getD j []).length) && agreeB B R i a j b))
def besideN (B : List (List Int)) (i : Nat) : List Nat := (List.range B.length).filter fun j => nearB B i j
def besideD (B : List (List Int)) : PyData := .list ((List.range B.length).map fun i => .list ((besideN B i).map nD))
theorem besideN_mem {B : List (List Int)} {i j : Nat} : j ∈ besideN B i ↔ j < B.length ∧ nearB B i j = true := by
  unfold besideN
  rw [List.mem_filter, List.mem_range]
theorem besideN_len (B : List (List Int)) (i : Nat) : (besideN B i).length ≤ B.length := by
  have := List.length_filter_le (fun j => nearB B i j) (List.range B.length)
  rwa [List.length_range] at this
/-- what an inner dict holds -/
def InnOk (B : List (List Int)) (R : List (List (List Int))) (S : Nat → Nat → Bool) (kv2 : List (NestedKey × V)) : Prop := (∀ j b, (valV kv2 (rowK j b)).isSome = S j b) ∧ ∀ k ∈ kv2.map (·.1), ∃ j b, k = rowK j b ∧ (net B R).row j b
def NearOk (P : Program) (w : World) (K : PySem.W.Frag) (H : Hp) (B : List (List Int)) (R : List (List (List Int))) (kvs : List (NestedKey × V)) : Prop :=
  ∀ i a, (net B R).row i a → ∃ e kv2, valV kvs (rowK i a) = some (.ref e) ∧ DN P w K H e kv2 ∧ InnOk B R (nearRB B R i a) kv2
/-- the object at x: what fits what in the data R of the book B -/
def FitsObj (P : Program) (w : World) (K : PySem.W.Frag) (C : Addr) (H : Hp) (x : Addr) (B : List (List Int)) (R : List (List (List Int))) : Prop :=
  ∃ dx vb vd ve d kvs, H x = some (.ins C dx [("book", vb), ("data", vd), ("beside", ve), ("near", .ref d)]) ∧ BkN H vb B ∧ Dp K H vd (dataD R) ∧ Dp K H ve (besideD B) ∧ DN P w K H d kvs ∧ NearOk P w K H B R kvs
section
variable {P : Program} {w : World} {K : PySem.W.Frag} {C : Addr} {H H' : Hp} {x : Addr} {B : List (List Int)} {R : List (List (List Int))}
theorem FitsObj.nx (h : FitsObj P w K C H x B R) (e : NX H H') : FitsObj P w K C H' x B R := by
  obtain ⟨dx, vb, vd, ve, d, kvs, h1, h2, h3, h4, h5, h6⟩ := h
  refine ⟨dx, vb, vd, ve, d, kvs, e _ _ h1 (fun _ z => nomatch z), h2.nx e, dp_nx e _ _ h3, dp_nx e _ _ h4, h5.nx e, fun i a hr => ?_⟩
  obtain ⟨e1, kv2, g1, g2, g3⟩ := h6 i a hr
  exact ⟨e1, kv2, g1, g2.nx e, g3⟩
theorem FitsObj.ex (h : FitsObj P w K C H x B R) (e : Ex H H') : FitsObj P w K C H' x B R := h.nx (NX.of_ex e)
variable {σ : L2.St} {i : Nat} {tx t1 t2 : TE} {s t o u : Nat}
theorem ed_fld {f : Str} {dx : Addr} {fs : List (Str × V)} {v : V} {d : PyData} (hs : σ[i]? = some (some (.ref x))) (hx : H x = some (.ins C dx fs)) (cl : Cls K C) (na : NoAttr K C f) (hl : fs.lookup f = some v) (p : Dp K H v d) : ED K (tFld K (tVar i) f) σ H d := fun H1 e Q q =>
  ⟨_, hs, x, C, dx, fs, v, rfl, e _ _ hx, cl, na, hl, q v H1 (Ex.refl _) (p.ex e)⟩
theorem ed_book (h : FitsObj P w K C H x B R) (hs : σ[i]? = some (some (.ref x))) (cl : Cls K C) (na : NoAttr K C "book") : ED K (tFld K (tVar i) "book") σ H (bookD B) := by
  obtain ⟨dx, vb, vd, ve, d, kvs, h1, h2, h3, h4, h5, h6⟩ := h
  exact ed_fld hs h1 cl na rfl h2.dp
theorem ed_data (h : FitsObj P w K C H x B R) (hs : σ[i]? = some (some (.ref x))) (cl : Cls K C) (na : NoAttr K C "data") : ED K (tFld K (tVar i) "data") σ H (dataD R) := by
  obtain ⟨dx, vb, vd, ve, d, kvs, h1, h2, h3, h4, h5, h6⟩ := h
  exact ed_fld hs h1 cl na rfl h3
theorem ed_beside (h : FitsObj P w K C H x B R) (hs : σ[i]? = some (some (.ref x))) (cl : Cls K C) (na : NoAttr K C "beside") : ED K (tFld K (tVar i) "beside") σ H (besideD B) := by
  obtain ⟨dx, vb, vd, ve, d, kvs, h1, h2, h3, h4, h5, h6⟩ := h
  exact ed_fld hs h1 cl na rfl h4
theorem beside_get {k : Nat} (h : k < B.length) : ((List.range B.length).map fun i => PyData.list ((besideN B i).map nD))[k]? = some (.list ((besideN B k).map nD)) := by
  rw [List.getElem?_map, List.getElem?_range h]; rfl
/-- a row in what is held beside another -/
theorem ed_inNear (h : FitsObj P w K C H x B R) (hs : σ[i]? = some (some (.ref x))) (cl : Cls K C) (na : NoAttr K C "near") (hx : ED K tx σ H (rowD s t)) (h1 : ED K t1 σ H (nD o)) (h2 : ED K t2 σ H (nD u)) (hr : (net B R).row o u) :
    ED K (tOp (rInN P w K) tx (tGetN P w K (tFld K (tVar i) "near") (tTup (tCons t1 (tCons t2 tNil))))) σ H (.bool (nearRB B R o u s t)) := fun H1 e Q q =>
  hx H1 e _ fun vx H2 e2 px => by
    obtain ⟨dx, vb, vd, ve, d, kvs, g1, g2, g3, g4, g5, g6⟩ := h
    have em := e.trans e2
    refine ⟨_, hs, x, C, dx, _, _, rfl, em _ _ g1, cl, na, rfl, ?_⟩
    refine ed_tup (eds_cons h1 (eds_cons h2 eds_nil)) (by show 2 ≤ 100000; decide) H2 em _ fun y H3 e3 py => ?_
    obtain ⟨e1, kv2, f1, f2, f3⟩ := g6 o u hr
    refine ⟨d, kvs, rowK o u, .ref e1, rfl, g5.ex (em.trans e3), rowK_key o u, py, f1, e1, kv2, rowK s t, rfl, f2.ex (em.trans e3), rowK_key s t, px.ex e3, ?_⟩
    rw [f3.1]
    exact q _ H3 (e2.trans e3) (.bl _)
end
end BB
/-! D6: what fits, once it stands: fits_all, fitting, tags, fits_row. -/
namespace BB
open PySem L2 Evl
section
variable {P : Program} {w : World} {K : PySem.W.Frag} {C : Addr} {σ : L2.St} {H : Hp} {te : TE} {t : TA} {d : PyData} {v : V} {i : Nat}
/-- arguments that answer Pa -/
def EA (t : TA) (σ : L2.St) (H : Hp) (Pa : Hp → List V → Prop) : Prop := ∀ H1, Ex H H1 → ∀ Q : List V → Hp → Prop, (∀ vs H2, Ex H1 H2 → Pa H2 vs → Q vs H2) → t σ H1 Q
theorem ea_nil' : EA tNil σ H fun _ vs => vs = [] := fun H1 e Q q => q [] H1 (Ex.refl _) rfl
theorem ea_d {Pa : Hp → List V → Prop} (h : ED K te σ H d) (hr : EA t σ H Pa) : EA (tCons te t) σ H fun H2 vs => ∃ u r, vs = u :: r ∧ Dp K H2 u d ∧ Pa H2 r := fun H1 e Q q =>
  h H1 e _ fun u H2 e2 pu => hr H2 (e.trans e2) _ fun r H3 e3 pr => q _ H3 (e2.trans e3) ⟨u, r, rfl, pu.ex e3, pr⟩
theorem ea_v {Pa : Hp → List V → Prop} (h : σ[i]? = some (some v)) (hr : EA t σ H Pa) : EA (tCons (tVar i) t) σ H fun H2 vs => ∃ r, vs = v :: r ∧ Pa H2 r := fun H1 e Q q =>
  ⟨v, h, hr H1 e _ fun r H3 e3 pr => q _ H3 e3 ⟨r, rfl, pr⟩⟩
theorem EA.to {Pa Pb : Hp → List V → Prop} (h : EA t σ H Pa) (f : ∀ H2 vs, Ex H H2 → Pa H2 vs → Pb H2 vs) : EA t σ H Pb := fun H1 e Q q => h H1 e Q fun vs H2 e2 p => q vs H2 e2 (f H2 vs (e.trans e2) p)
/-- a method of what fits that gives data -/
def FSp (P : Program) (w : World) (K : PySem.W.Frag) (C : Addr) {ι : Type} (pre : List (List Int) → List (List (List Int)) → ι → Hp → List V → Prop) (f : List (List Int) → List (List (List Int)) → ι → PyData) : Sp := fun vs H Q _ =>
  ∃ x rest B R i, vs = .ref x :: rest ∧ FitsObj P w K C H x B R ∧ DataG B R ∧ pre B R i H rest ∧ ∀ v H', Ex H H' → Dp K H' v (f B R i) → Q v H'
variable {B : List (List Int)} {R : List (List (List Int))} {x : Addr}
theorem ed_meth {m : Str} {ι : Type} {pre : List (List Int) → List (List (List Int)) → ι → Hp → List V → Prop} {f : List (List Int) → List (List (List Int)) → ι → PyData} {E : XK} (j : ι) (hs : σ[i]? = some (some (.ref x))) (h : FitsObj P w K C H x B R) (hD : DataG B R)
    (hm : ∀ a b c d : V, ([("book", a), ("data", b), ("beside", c), ("near", d)] : List (Str × V)).lookup m = none) (ha : EA t σ H (pre B R j)) : ED K (tMeth C m (FSp P w K C pre f) [] E (tVar i) t) σ H (f B R j) := fun H1 e Q q => by
  obtain ⟨dx, vb, vd, ve, dd, kvs, h1, hrest⟩ := id h
  refine ⟨_, hs, x, dx, _, rfl, e _ _ h1, hm _ _ _ _, ha H1 e _ fun vs H2 e2 pv => ?_⟩
  refine ⟨x, vs, B, R, j, by rw [List.append_nil], h.ex (e.trans e2), hD, pv, fun v H3 e3 pd => q v H3 (e2.trans e3) pd⟩
def LotIn (B : List (List Int)) (R : List (List (List Int))) (L : Lot) : Prop := ∀ s u, look L s = some u → (net B R).row s u
def fitsAllB (B : List (List Int)) (R : List (List (List Int))) (L : Lot) (s t : Nat) : Bool := ((besideN B s).filter fun o => (look L o).isSome).all fun o => nearRB B R o ((look L o).getD 0) s t
def preFA (K : PySem.W.Frag) (B : List (List Int)) (R : List (List (List Int))) (i : Nat × Nat × Lot) (H : Hp) (vs : List V) : Prop := ∃ v1 v2, vs = [v1, v2] ∧ Dp K H v1 (rowD i.1 i.2.1) ∧ LotV H v2 i.2.2 ∧ LotIn B R i.2.2 ∧ i.1 < B.length
end
section
variable {P : Program} {w : World} {K : PySem.W.Frag} {mg : Str → Option Value} {base : Heap}
theorem sc_Fits_fits_all : FnScope ["self", "row", "lot", "source", "other"] ["self", "row", "lot"] (defScope st_Fits_fits_all) := ⟨rfl, rfl, rfl, by decide +kernel, rfl, by decide +kernel, by decide +kernel⟩
theorem ok_Fits_fits_all (T : Txt K mg) : FnOk P w K mg base CX0 1 T.m_fits_all_f T.m_fits_all_fd ["self", "row", "lot"] (FSp P w K T.FC (preFA K) fun B R i => .bool (fitsAllB B R i.2.2 i.1 i.2.1)) := by
  refine T.m_fits_all_F.ok sc_Fits_fits_all ?len (fun cdv A outer s H vs Q E hr h => ?_)
  case len =>
    rintro vs H Q E ⟨x, rest, B, R, i, rfl, _, _, ⟨v1, v2, rfl, _⟩, _⟩
    rfl
  obtain ⟨x, rest, B, R, ⟨s0, t0, L⟩, rfl, hF, hD, ⟨v1, v2, rfl, p1, hL, hin, hs0⟩, k⟩ := h
  simp only at p1 hL hin hs0 k
  refine ⟨_, (pss_cons (ps_set (i := 3) sc_Fits_fits_all.nd rfl (by first | exact Or.inl rfl | exact Or.inr rfl) (pe_ix (ixTK (K := K)) (pv 1) pe_int (fun _ _ => rfl)))
      (pss_one (ps_ret (pe_callB (allK (K := K) rfl) (by rfl) T.b_all (by decide +kernel) (pa_cons (pe_lc (own := [("other", 4)]) rfl sc_Fits_fits_all.nd (piLK (K := K) (pe_ix (ixLK (K := K)) (fldK (K := K) (pv 0) rfl) (pv 3) (fun _ _ => rfl))) (blkOk_by (own := [("other", 4)]) (N := ["self", "row", "lot", "source", "other"]) (sc := defScope st_Fits_fits_all) (by decide +kernel)) (fun _ _ _ _ _ => (pg_name (i := 4) sc_Fits_fits_all.nd rfl (by first | exact Or.inl rfl | exact Or.inr rfl))) (fun _ _ _ _ _ => pts_one (pt_cmp (pc_din (hu_of hr) (pv 4) (pv 2)) (by rfl))) (fun _ _ _ _ _ => (pe_cmpR (inNK (P := P) (w := w) (K := K) (room_n hr)) (pv 1) (getNK (P := P) (w := w) (K := K) (room_n hr) (fldK (K := K) (pv 0) rfl) (pe_tup (pa_cons (pv 4) (pa_cons (pe_dget (hu_of hr) (pv 2) (pv 4) (fun _ _ => rfl)) pa_nil))) (fun _ _ => rfl)) (by rfl)))) pa_nil))))), ?_⟩
  refine q_asgD (ed_op (ed_var rfl p1) ed_int (rd_ixT (i := 0) rfl)) fun z H1 e1 pz => ?_
  have hsm := hD.small
  refine s_retD (ed_all (xs := (besideN B s0).filter fun o => (look L o).isSome) (p := fun o => nearRB B R o ((look L o).getD 0) s0 t0) (ed_lc (xs := besideN B s0) (enc := nD) (f := fun o => (look L o).isSome) (w := fun o => .bool (nearRB B R o ((look L o).getD 0) s0 t0)) (fun H2 e2 => ei_lst (ed_op (ed_beside (hF.ex (e1.trans e2)) rfl T.clF T.na_beside) (ed_var rfl (pz.ex e2)) (rd_ixL (beside_get hs0))))
    (by have := besideN_len B s0; omega) (fun _ _ _ => rfl) (fun _ => rfl) (fun o y H2 _ e2 py => et_B (ed_dIn (ed_var rfl py) rfl (hL.ex (e1.trans e2)))) (fun o y H2 ho e2 py hf => ?_))) fun v H2 e2 p => k v H2 (e1.trans e2) p
  obtain ⟨u, hu⟩ := Option.isSome_iff_exists.mp hf
  rw [hu]
  exact ed_inNear (hF.ex (e1.trans e2)) rfl T.clF T.na_near (ed_var rfl (p1.ex (e1.trans e2))) (ed_var rfl py) (ed_dGet rfl (hL.ex (e1.trans e2)) (ed_var rfl py) hu) (hin o u hu)
/-- the first tag that fits, if anything stands beside -/
def fitN (B : List (List Int)) (R : List (List (List Int))) (L : Lot) (s : Nat) : Option Nat := if (besideN B s).any (fun o => (look L o).isSome) then (List.range (R.getD s []).length).find? (fitsAllB B R L s) else none
def preLS (K : PySem.W.Frag) (B : List (List Int)) (R : List (List (List Int))) (i : Lot × Nat) (H : Hp) (vs : List V) : Prop := ∃ v1 v2, vs = [v1, v2] ∧ LotV H v1 i.1 ∧ Dp K H v2 (nD i.2) ∧ LotIn B R i.1 ∧ i.2 < B.length
theorem find_at {p : Nat → Bool} {n i : Nat} (h : (List.range n).findIdx? p = some i) : (List.range n).find? p = some i := by
  obtain ⟨hlt, h1, h2⟩ := List.findIdx?_eq_some_iff_getElem.mp h
  rw [List.length_range] at hlt
  rw [List.getElem_range] at h1
  refine List.find?_range_eq_some.mpr ⟨h1, List.mem_range.mpr hlt, fun j hj => ?_⟩
  have := h2 j hj
  rw [List.getElem_range] at this
  simpa using this
theorem sc_Fits_fitting : FnScope ["self", "lot", "source", "other", "tag"] ["self", "lot", "source"] (defScope st_Fits_fitting) := ⟨rfl, rfl, rfl, by decide +kernel, rfl, by decide +kernel, by decide +kernel⟩
theorem ok_Fits_fitting (T : Txt K mg) : FnOk P w K mg base CX0 2 T.m_fitting_f T.m_fitting_fd ["self", "lot", "source"] (FSp P w K T.FC (preLS K) fun B R i => tagD (fitN B R i.1 i.2)) := by
  refine T.m_fitting_F.ok sc_Fits_fitting ?len (fun cdv A outer s H vs Q E hr h => ?_)
  case len =>
    rintro vs H Q E ⟨x, rest, B, R, i, rfl, _, _, ⟨v1, v2, rfl, _⟩, _⟩
    rfl
  obtain ⟨x, rest, B, R, ⟨L, s0⟩, rfl, hF, hD, ⟨v1, v2, rfl, hL, p2, hin, hs0⟩, k⟩ := h
  simp only at p2 hL hin hs0 k
  refine ⟨_, (pss_cons (ps_if (pt_not (pt_val (pe_callB (anyK (K := K) rfl) (by rfl) T.b_any (by decide +kernel) (pa_cons (pe_lc (own := [("other", 3)]) rfl sc_Fits_fitting.nd (piLK (K := K) (pe_ix (ixLK (K := K)) (fldK (K := K) (pv 0) rfl) (pv 2) (fun _ _ => rfl))) (blkOk_by (own := [("other", 3)]) (N := ["self", "lot", "source", "other", "tag"]) (sc := defScope st_Fits_fitting) (by decide +kernel)) (fun _ _ _ _ _ => (pg_name (i := 3) sc_Fits_fitting.nd rfl (by first | exact Or.inl rfl | exact Or.inr rfl))) (fun _ _ _ _ _ => pts_nil) (fun _ _ _ _ _ => (pe_cmp (pc_din (hu_of hr) (pv 3) (pv 1)) (by rfl)))) pa_nil))))
      (pss_one (ps_ret pe_non))
      pss_nil)
      (pss_cons (ps_for PassesOwn.never rfl (pi_range1 (by rfl) T.b_range (pa_cons (pe_callB (lenK (K := K)) (by rfl) T.b_len (by decide +kernel) (pa_cons (pe_ix (ixTK (K := K)) (fldK (K := K) (pv 0) rfl) (pv 2) (fun _ _ => rfl)) pa_nil)) pa_nil)) (pg_name (i := 4) sc_Fits_fitting.nd rfl (by first | exact Or.inl rfl | exact Or.inr rfl))
      (pss_one (ps_if (pt_val (pe_meth (pv 0) T.clF T.m_fits_all (ok_Fits_fits_all T) (hr.mono (by decide)) T.m_fits_all_b .nil pass0 (pa_cons (pe_tup (pa_cons (pv 2) (pa_cons (pv 4) pa_nil))) (pa_cons (pv 1) pa_nil))))
        (pss_one (ps_ret (pv 4)))
        pss_nil)))
      (pss_one (ps_ret pe_non)))), ?_⟩
  have hsm := hD.small
  refine q_whenD (et_not (et_B (ed_any (xs := besideN B s0) (p := fun o => (look L o).isSome) (ed_lcY (xs := besideN B s0) (enc := nD) (w := fun o => .bool (look L o).isSome) (fun H2 e2 => ei_lst (ed_op (ed_beside (hF.ex e2) rfl T.clF T.na_beside) (ed_var rfl (p2.ex e2)) (rd_ixL (beside_get hs0))))
    (by have := besideN_len B s0; omega) (fun _ _ => rfl) (fun _ => rfl) (fun o y H2 _ e2 py => ed_dIn (ed_var rfl py) rfl (hL.ex e2)))))) (fun hx H1 e1 => ?_) (fun hx H1 e1 => ?_)
  · refine s_retD (K := K) ed_non fun v H2 e2 pv => k v H2 (e1.trans e2) ?_
    have : (besideN B s0).any (fun o => (look L o).isSome) = false := by simpa using hx
    unfold fitN
    rw [this]
    exact pv
  · have hb : (besideN B s0).any (fun o => (look L o).isSome) = true := by simpa using hx
    have hk : fitN B R L s0 = (List.range (R.getD s0 []).length).find? (fitsAllB B R L s0) := by unfold fitN; rw [hb]; rfl
    have hsR : s0 < R.length := by rw [hD.len]; exact hs0
    have hfew : (R.getD s0 []).length ≤ 3 := hD.few _ (List.mem_of_getElem? (getD_of (d := []) hsR))
    refine q_find1 (xs := List.range (R.getD s0 []).length) (enc := nD) (p := fitsAllB B R L s0) (r := nD) (ei_rng (n := (R.getD s0 []).length) (eds_cons (ed_lenT (ed_op (ed_data (hF.ex e1) rfl T.clF T.na_data) (ed_var rfl (p2.ex e1)) (rd_ixT (dget hsR)))) eds_nil) (by omega)) rfl
      (fun a y H2 ha e2 py => et_B (ed_meth (s0, a, L) rfl (hF.ex (e1.trans e2)) hD (fun _ _ _ _ => rfl) ((ea_d (ed_tup (eds_cons (ed_var rfl (p2.ex (e1.trans e2))) (eds_cons (ed_var rfl py) eds_nil)) (by show 2 ≤ 100000; decide)) (ea_v rfl ea_nil')).to fun H3 vs e3 hv => ?_)))
      (fun a y H2 ha hp e2 py => ed_var rfl py) (fun i a v H2 hi ha e2 pv => k v H2 (e1.trans e2) ?_) (fun o H2 hn e2 => ?_)
    · obtain ⟨u, r, rfl, pu, r2, rfl, rfl⟩ := hv
      exact ⟨u, _, rfl, pu, (hL.ex (e1.trans e2)).ex e3, hin, hs0⟩
    · rw [hk, find_at hi]
      have h1 := (List.getElem?_eq_some_iff.mp ha).1
      rw [List.length_range] at h1
      rw [List.getElem?_range h1] at ha
      cases ha
      exact pv
    · refine s_retD (K := K) ed_non fun v H3 e3 pv => k v H3 ((e1.trans e2).trans e3) ?_
      have : (List.range (R.getD s0 []).length).find? (fitsAllB B R L s0) = none := List.find?_eq_none.mpr fun a ha => by
        have := List.findIdx?_eq_none_iff.mp hn a ha
        simp [this]
      rw [hk, this]; exact pv
def tagsL (B : List (List Int)) (L : Lot) : Tags := (List.range B.length).map (look L)
def preL (B : List (List Int)) (R : List (List (List Int))) (L : Lot) (H : Hp) (vs : List V) : Prop := ∃ v1, vs = [v1] ∧ LotV H v1 L
theorem sc_Fits_tags : FnScope ["self", "lot", "source"] ["self", "lot"] (defScope st_Fits_tags) := ⟨rfl, rfl, rfl, by decide +kernel, rfl, by decide +kernel, by decide +kernel⟩
theorem ok_Fits_tags (T : Txt K mg) : FnOk P w K mg base CX0 1 T.m_tags_f T.m_tags_fd ["self", "lot"] (FSp P w K T.FC preL fun B R L => tagsD (tagsL B L)) := by
  refine T.m_tags_F.ok sc_Fits_tags ?len (fun cdv A outer s H vs Q E hr h => ?_)
  case len =>
    rintro vs H Q E ⟨x, rest, B, R, i, rfl, _, _, ⟨v1, rfl, _⟩, _⟩
    rfl
  obtain ⟨x, rest, B, R, L, rfl, hF, hD, ⟨v1, rfl, hL⟩, k⟩ := h
  refine ⟨_, (pss_one (ps_ret (pe_callTy (tupK (K := K)) (by rfl) T.b_tuple (by decide +kernel) (pa_cons (pe_lc (own := [("source", 2)]) rfl sc_Fits_tags.nd (pi_range1 (by rfl) T.b_range (pa_cons (pe_callB (lenK (K := K)) (by rfl) T.b_len (by decide +kernel) (pa_cons (fldK (K := K) (pv 0) rfl) pa_nil)) pa_nil)) (blkOk_by (own := [("source", 2)]) (N := ["self", "lot", "source"]) (sc := defScope st_Fits_tags) (by decide +kernel)) (fun _ _ _ _ _ => (pg_name (i := 2) sc_Fits_tags.nd rfl (by first | exact Or.inl rfl | exact Or.inr rfl))) (fun _ _ _ _ _ => pts_nil) (fun _ _ _ _ _ => (pe_dget1 (hu_of hr) (pv 1) (pv 2) ⟨rfl, rfl, rfl, rfl⟩))) pa_nil)))), ?_⟩
  have hsm := hD.small
  refine s_retD ((ed_cb (eds_cons (ed_lcY (xs := List.range B.length) (enc := nD) (w := fun s => tagD (look L s)) (fun H1 e1 => ei_rng (n := B.length) (eds_cons (ed_lenT (ed_book (hF.ex e1) rfl T.clF T.na_book)) eds_nil) (by omega)) (by rw [List.length_range]; omega) (fun s _ => stay_tupled _ (tupled_tag _)) (fun _ => rfl)
    (fun s y H1 _ e1 py => ed_dGet1 rfl (hL.ex e1) (ed_var rfl py))) eds_nil) rcd_tuple).is ?_) fun v H1 e p => k v H1 e p
  show _ = PyData.tuple (((List.range B.length).map (look L)).map tagD)
  rw [List.map_map]; rfl
def fitsRowB (B : List (List Int)) (R : List (List (List Int))) (o u s t : Nat) : Bool := !decide (s ∈ besideN B o) || nearRB B R o u s t
def preFR (K : PySem.W.Frag) (B : List (List Int)) (R : List (List (List Int))) (i : Nat × Nat × Nat × Nat) (H : Hp) (vs : List V) : Prop := ∃ v1 v2 v3, vs = [v1, v2, v3] ∧ Dp K H v1 (nD i.1) ∧ Dp K H v2 (nD i.2.1) ∧ Dp K H v3 (rowD i.2.2.1 i.2.2.2) ∧ (net B R).row i.1 i.2.1
theorem sc_Fits_fits_row : FnScope ["self", "source", "tag", "row"] ["self", "source", "tag", "row"] (defScope st_Fits_fits_row) := ⟨rfl, rfl, rfl, by decide +kernel, rfl, by decide +kernel, by decide +kernel⟩
theorem ok_Fits_fits_row (T : Txt K mg) : FnOk P w K mg base CX0 1 T.m_fits_row_f T.m_fits_row_fd ["self", "source", "tag", "row"] (FSp P w K T.FC (preFR K) fun B R i => .bool (fitsRowB B R i.1 i.2.1 i.2.2.1 i.2.2.2)) := by
  refine T.m_fits_row_F.ok sc_Fits_fits_row ?len (fun cdv A outer s H vs Q E hr h => ?_)
  case len =>
    rintro vs H Q E ⟨x, rest, B, R, i, rfl, _, _, ⟨v1, v2, v3, rfl, _⟩, _⟩
    rfl
  obtain ⟨x, rest, B, R, ⟨o, u, s0, t0⟩, rfl, hF, hD, ⟨v1, v2, v3, rfl, p1, p2, p3, hrow⟩, k⟩ := h
  simp only at p1 p2 p3 hrow k
  refine ⟨_, (pss_one (ps_ret (pe_or (pe_cmpR (niK (K := K)) (pe_ix (ixTK (K := K)) (pv 3) pe_int (fun _ _ => rfl)) (pe_ix (ixLK (K := K)) (fldK (K := K) (pv 0) rfl) (pv 1) (fun _ _ => rfl)) (by rfl)) (pe_one (pe_cmpR (inNK (P := P) (w := w) (K := K) (room_n hr)) (pv 3) (getNK (P := P) (w := w) (K := K) (room_n hr) (fldK (K := K) (pv 0) rfl) (pe_tup (pa_cons (pv 1) (pa_cons (pv 2) pa_nil))) (fun _ _ => rfl)) (by rfl)))))), ?_⟩
  refine s_retD (ed_or (ed_op (ed_op (ed_var rfl p3) ed_int (rd_ixT (i := 0) rfl)) (ed_op (ed_beside hF rfl T.clF T.na_beside) (ed_var rfl p1) (rd_ixL (beside_get hrow.1))) rd_niLN) fun _ => ed_inNear hF rfl T.clF T.na_near (ed_var rfl p3) (ed_var rfl p1) (ed_var rfl p2) hrow) fun v H1 e p => k v H1 e p
end
end BB
/-! D7: greatest. -/
namespace BB
open PySem L2 Evl
theorem lot_len {B : List (List Int)} {R : List (List (List Int))} {L : Lot} (hn : (L.map (·.1)).Nodup) (hin : LotIn B R L) : L.length ≤ B.length := by
  have := Net.nodup_le hn fun x hx => by
    obtain ⟨⟨s, u⟩, h1, rfl⟩ := List.mem_map.mp hx
    exact (hin s u (look_of_mem hn h1)).1
  rwa [List.length_map] at this
/-- what going on to the greatest gives -/
structure Gr (B : List (List Int)) (R : List (List (List Int))) (L0 L : Lot) : Prop where
  nodup : (L.map (·.1)).Nodup
  inn : LotIn B R L
  le : Net.Le (look L0) (look L)
  lot : (net B R).IsLt (look L0) → (net B R).IsLt (look L)
section
variable {B : List (List Int)} {R : List (List (List Int))} {L L0 : Lot} {s t : Nat}
theorem nearB_symm {B : List (List Int)} (i j : Nat) : nearB B i j = nearB B j i := (net_ok B []).symm i j
theorem nearRB_of {o u : Nat} (hs : s < B.length) (ht : t < (R.getD s []).length) (hn : nearB B o s = true) : nearRB B R o u s t = agreeB B R o u s t := by
  unfold nearRB
  rw [hn, decide_eq_true hs, decide_eq_true ht]; rfl
theorem fitN_none (hs : s < B.length) (h : fitN B R L s = none) (hb : ∃ o, o < B.length ∧ nearB B s o = true ∧ (look L o).isSome = true) (ht : t < (R.getD s []).length) : ∃ o u, nearB B s o = true ∧ look L o = some u ∧ agreeB B R o u s t = false := by
  have hany : (besideN B s).any (fun o => (look L o).isSome) = true := by
    obtain ⟨o, h1, h2, h3⟩ := hb
    exact List.any_eq_true.mpr ⟨o, besideN_mem.mpr ⟨h1, h2⟩, h3⟩
  unfold fitN at h
  rw [hany] at h
  have h1 := List.find?_eq_none.mp h t (List.mem_range.mpr ht)
  have h2 : fitsAllB B R L s t = false := by simpa using h1
  unfold fitsAllB at h2
  obtain ⟨o, h3, h4⟩ := List.all_eq_false.mp h2
  obtain ⟨h5, h6⟩ := List.mem_filter.mp h3
  obtain ⟨u, hu⟩ := Option.isSome_iff_exists.mp h6
  have hso := (besideN_mem.mp h5).2
  have hos : nearB B o s = true := by rw [nearB_symm]; exact hso
  rw [hu, Option.getD_some, nearRB_of hs ht hos] at h4
  exact ⟨o, u, hso, hu, by simpa using h4⟩
theorem fitN_some (hs : s < B.length) (h : fitN B R L s = some t) : t < (R.getD s []).length ∧ (∃ o, nearB B s o = true ∧ (look L o).isSome = true) ∧ ∀ o u, o < B.length → look L o = some u → nearB B s o = true → agreeB B R o u s t = true := by
  unfold fitN at h
  by_cases hany : (besideN B s).any (fun o => (look L o).isSome) = true
  · rw [if_pos hany] at h
    obtain ⟨h1, h2, _⟩ := List.find?_range_eq_some.mp h
    have ht := List.mem_range.mp h2
    obtain ⟨o, ho1, ho2⟩ := List.any_eq_true.mp hany
    refine ⟨ht, ⟨o, (besideN_mem.mp ho1).2, ho2⟩, fun o u hoB hu hn => ?_⟩
    unfold fitsAllB at h1
    have := List.all_eq_true.mp h1 o (List.mem_filter.mpr ⟨besideN_mem.mpr ⟨hoB, hn⟩, by rw [hu]; rfl⟩)
    rw [hu, Option.getD_some, nearRB_of hs ht (by rw [nearB_symm]; exact hn)] at this
    exact this
  · rw [if_neg hany] at h; cases h
theorem look_fun (h : look L s = none) : look (L ++ [(s, t)]) = fun i => if i = s then some t else look L i := funext fun x => look_app h
theorem nodup_app (hn : (L.map (·.1)).Nodup) (h : look L s = none) : ((L ++ [(s, t)]).map (·.1)).Nodup := by
  rw [List.map_append, List.map_singleton]
  refine List.nodup_append.mpr ⟨hn, by simp, fun a ha b hb e => ?_⟩
  rw [List.mem_singleton.mp hb] at e
  obtain ⟨p, hp, rfl⟩ := List.mem_map.mp ha
  exact look_none.mp h p hp e
theorem Gr.add (g : Gr B R L0 L) (hs : s < B.length) (hn : look L s = none) (hf : fitN B R L s = some t) : Gr B R L0 (L ++ [(s, t)]) := by
  obtain ⟨h1, ⟨o, h2, h3⟩, h4⟩ := fitN_some hs hf
  have hrow : (net B R).row s t := ⟨hs, h1⟩
  refine ⟨nodup_app g.nodup hn, fun i a hi => ?_, fun i a hi => ?_, fun h0 => ?_⟩
  · rw [look_app hn] at hi
    by_cases q : i = s
    · rw [if_pos q] at hi; cases hi; rw [q]; exact hrow
    · rw [if_neg q] at hi; exact g.inn i a hi
  · rw [look_app hn]
    have := g.le i a hi
    by_cases q : i = s
    · rw [q, hn] at this; cases this
    · rw [if_neg q]; exact this
  · rw [look_fun hn]
    exact Net.add_lot (net_ok B R) (g.lot h0) hrow hn ⟨o, h2, h3⟩ fun o u hu hso => h4 o u (g.inn o u hu).1 hu hso
end
/-- greatest gives a new lot, one that nothing goes on -/
def GSp (P : Program) (w : World) (K : PySem.W.Frag) (C : Addr) : Sp := fun vs H Q _ => ∃ x v1 B R L, vs = [.ref x, v1] ∧ FitsObj P w K C H x B R ∧ DataG B R ∧ LotV H v1 L ∧ LotIn B R L ∧
  ∀ a L' H', Ex H H' → H a = none → H' a = some (.dK (lotK L')) → Gr B R L L' → (net B R).Sat (look L') → Q (.ref a) H'
section
variable {P : Program} {w : World} {K : PySem.W.Frag} {mg : Str → Option Value} {base : Heap}
theorem LotV.of {H : Hp} {a : Addr} {L : Lot} (h : H a = some (.dK (lotK L))) (hn : (L.map (·.1)).Nodup) : LotV H (.ref a) L := ⟨a, rfl, .inl h, hn⟩
theorem ed_lenD {σ : L2.St} {H : Hp} {i : Nat} {v : V} {L : Lot} (hv : σ[i]? = some (some v)) (hL : LotV H v L) : ED K (tCB rLenD (tCons (tVar i) tNil)) σ H (.int (L.length : Int)) := fun H1 e Q q => by
  obtain ⟨a, rfl, h1, h2⟩ := hL
  refine ⟨_, hv, a, lotK L, rfl, ex_rd e h1, ?_⟩
  rw [lotK_len]
  exact q _ H1 (Ex.refl _) (.int _)
theorem sc_Fits_greatest : FnScope ["self", "lot", "many", "source", "tag"] ["self", "lot"] (defScope st_Fits_greatest) := ⟨rfl, rfl, rfl, by decide +kernel, rfl, by decide +kernel, by decide +kernel⟩
theorem ok_Fits_greatest (T : Txt K mg) : FnOk P w K mg base CX0 3 T.m_greatest_f T.m_greatest_fd ["self", "lot"] (GSp P w K T.FC) := by
  refine T.m_greatest_F.ok sc_Fits_greatest ?len (fun cdv A outer s H vs Q E hr h => ?_)
  case len =>
    rintro vs H Q E ⟨x, v1, B, R, L, rfl, _⟩
    rfl
  obtain ⟨x, v1, B, R, L0, rfl, hF, hD, hL0, hin0, k⟩ := h
  refine ⟨_, (pss_cons (ps_set (i := 1) sc_Fits_greatest.nd rfl (by first | exact Or.inl rfl | exact Or.inr rfl) (pe_callTy call_dictD (by rfl) T.b_dict (by decide +kernel) (pa_cons (pv 1) pa_nil)))
      (pss_cons (ps_set (i := 2) sc_Fits_greatest.nd rfl (by first | exact Or.inl rfl | exact Or.inr rfl) (pe_un un_neg pe_int))
      (pss_cons (ps_while PassesOwn.never (pt_cmpR op_lt (pv 2) (pe_callB call_lenD (by rfl) T.b_len (by decide +kernel) (pa_cons (pv 1) pa_nil)) (nomark _))
      (pss_cons (ps_set (i := 2) sc_Fits_greatest.nd rfl (by first | exact Or.inl rfl | exact Or.inr rfl) (pe_callB call_lenD (by rfl) T.b_len (by decide +kernel) (pa_cons (pv 1) pa_nil)))
        (pss_one (ps_for PassesOwn.never rfl (pi_range1 (by rfl) T.b_range (pa_cons (pe_callB (lenK (K := K)) (by rfl) T.b_len (by decide +kernel) (pa_cons (fldK (K := K) (pv 0) rfl) pa_nil)) pa_nil)) (pg_name (i := 3) sc_Fits_greatest.nd rfl (by first | exact Or.inl rfl | exact Or.inr rfl))
        (pss_cons (ps_set (i := 4) sc_Fits_greatest.nd rfl (by first | exact Or.inl rfl | exact Or.inr rfl) (pe_ifExp (pt_cmp (pc_din (hu_of hr) (pv 3) (pv 1)) (by rfl)) pe_non (pe_meth (pv 0) T.clF T.m_fitting (ok_Fits_fitting T) (hr.mono (by decide)) T.m_fitting_b .nil pass0 (pa_cons (pv 1) (pa_cons (pv 3) pa_nil)))))
          (pss_one (ps_if (pt_cmpR op_notN (pv 4) pe_non (nomark _))
          (pss_one (ps_dput (hu_of hr) (pv 1) (pv 3) (pv 4) rfl))
          pss_nil)))))))
      (pss_one (ps_ret (pv 1)))))), ?_⟩
  have hsm := hD.small
  obtain ⟨a0, rfl, hr0, hnd0⟩ := id hL0
  -- the copy
  refine ⟨_, rfl, a0, lotK L0, rfl, hr0, fun a ha => ?_⟩
  have e1 : Ex H (upd H a (.dK (lotK L0))) := Ex.new ha
  refine q_asgD (K := K) (ed_neg ed_int) fun z H1 e2 pz => ?_
  cases dp_int pz
  have hst : (upd H a (.dK (lotK L0))) a = some (.dK (lotK L0)) := upd_same
  refine q_while (fun m σ' H' => ∃ (L : Lot) (many : Int) (o3 o4 : Option V), Ex H H' ∧ H' a = some (.dK (lotK L)) ∧ Gr B R L0 L ∧ (many < (L.length : Int) ∨ ∀ s, s < B.length → look L s = none → fitN B R L s = none) ∧ m = 2 * (B.length - L.length) + (if many < (L.length : Int) then 1 else 0) ∧ σ' = [some (.ref x), some (.ref a), some (.int many), o3, o4]) (2 * (B.length - L0.length) + 1)
    ⟨L0, -1, none, none, e1.trans e2, e2 _ _ hst, ⟨hnd0, hin0, fun _ _ h => h, id⟩, .inl (by omega), by rw [if_pos (by omega)], rfl⟩ ?_
  rintro m σ' H' ⟨L, many, o3, o4, e, hst', g, hstop, rfl, rfl⟩
  refine ⟨decide (many < (L.length : Int)), et_test (K := K) (ed_op (ed_var rfl (.int many)) (ed_lenD rfl (LotV.of hst' g.nodup)) rd_b), fun hx H3 e3 => ?_, fun hx H3 e3 => ?_⟩
  · have hlt : many < (L.length : Int) := of_decide_eq_true hx
    refine ⟨_, fun σ2 H2 h => h, ?_⟩
    refine q_asgD (K := K) (ed_lenD rfl (LotV.of (e3 _ _ hst') g.nodup)) fun z H4 e4 pz => ?_
    cases dp_int pz
    have e04 := (e.trans e3).trans e4
    refine s_forD (ei_rng (GG := fun _ _ => True) (n := B.length) (eds_cons (ed_lenT (ed_book (hF.ex e04) rfl T.clF T.na_book)) eds_nil) (by omega)) (fun H5 i σ' H' => ∃ (L' : Lot) (o3 o4 : Option V), Ex H H' ∧ H' a = some (.dK (lotK L')) ∧ Gr B R L0 L' ∧ ((L' = L ∧ ∀ s, s < i → look L s = none → fitN B R L s = none) ∨ L.length < L'.length) ∧ σ' = [some (.ref x), some (.ref a), some (.int (L.length : Int)), o3, o4])
      (fun H5 e5 => ⟨L, o3, o4, e04.trans e5, e5 _ _ (e4 _ _ (e3 _ _ hst')), g, .inl ⟨rfl, fun s h => absurd h (Nat.not_lt_zero s)⟩, rfl⟩) (fun _ _ _ _ _ _ => trivial) ?_ ?_
    · rintro H5 i d y σ' H6 H7 e5 hd ⟨L', o3, o4, e6, hst6, g6, hor, rfl⟩ e67 py
      obtain ⟨s0, hs, rfl⟩ := map_get hd
      have hsB : i < B.length := by have := (List.getElem?_eq_some_iff.mp hs).1; rwa [List.length_range] at this
      rw [List.getElem?_range hsB] at hs
      cases hs
      show tSeq _ _ _ [some (.ref x), some (.ref a), some (.int (L.length : Int)), some y, o4] H7
      have e7 := e6.trans e67
      have hL7 : LotV H7 (.ref a) L' := LotV.of (e67 _ _ hst6) g6.nodup
      refine q_asgD (K := K) (d := tagD (if (look L' i).isSome then none else fitN B R L' i)) (ed_if (et_B (ed_dIn (ed_var rfl py) rfl hL7)) (fun hx => by rw [hx]; exact ed_non) (fun hx => by
        rw [hx]
        exact ed_meth (L', i) rfl (hF.ex e7) hD (fun _ _ _ _ => rfl) ((ea_v rfl (ea_d (ed_var rfl py) ea_nil')).to fun H8 vs e8 hv => by
          obtain ⟨r, rfl, u, r2, rfl, pu, rfl⟩ := hv
          exact ⟨_, _, rfl, hL7.ex e8, pu, g6.inn, hsB⟩))) fun z H8 e8 pz => ?_
      cases hq : (if (look L' i).isSome then none else fitN B R L' i) with
      | none =>
        rw [hq] at pz
        refine s_ifD (x := false) (et_test (ed_op (ed_var rfl pz) ed_non rd_notN)) (fun h => nomatch h) fun _ H9 e9 => ⟨L', _, _, (e7.trans e8).trans e9, e9 _ _ (e8 _ _ (e67 _ _ hst6)), g6, ?_, rfl⟩
        rcases hor with ⟨rfl, hall⟩ | hlt'
        · refine .inl ⟨rfl, fun s hs hn => ?_⟩
          by_cases q : s = i
          · subst q; rw [hn] at hq; exact hq
          · exact hall s (by omega) hn
        · exact .inr hlt'
      | some t0 =>
        rw [hq] at pz
        have hn : look L' i = none := by
          cases q : look L' i with
          | none => rfl
          | some _ => rw [q] at hq; cases hq
        have hf : fitN B R L' i = some t0 := by rw [hn] at hq; exact hq
        refine s_ifD (x := true) (et_test (ed_op (ed_var rfl pz) ed_non rd_notN)) (fun _ H9 e9 => ?_) fun h => nomatch h
        have h9 : H9 a = some (.dK (lotK L')) := e9 _ _ (e8 _ _ (e67 _ _ hst6))
        cases dp_int pz
        have hlen := lot_len g6.nodup g6.inn
        refine ⟨_, rfl, _, rfl, _, rfl, a, upd H9 a (.dK (putK (lotK L') (Sum.inl (i : Int)) (.int (t0 : Int)))), rfl, ?_, ?_⟩
        · cases dp_int py
          exact DPut.k (k := Sum.inl (i : Int)) h9 (by rw [lotK_len]; exact sz_lt (by omega))
        · rw [lotK_put hn]
          have eL : (L' ++ [(i, t0)]).length = L'.length + 1 := by rw [List.length_append]; rfl
          refine ⟨L' ++ [(i, t0)], _, _, Ex.mut ((e7.trans e8).trans e9) ha, upd_same, g6.add hsB hn hf, .inr ?_, rfl⟩
          rcases hor with ⟨rfl, _⟩ | hlt'
          · omega
          · omega
    · rintro H5 σ' H6 e5 ⟨L', o3, o4, e6, hst6, g6, hor, rfl⟩
      rw [rgD_len] at hor
      have hl1 := lot_len g.nodup g.inn
      have hl2 := lot_len g6.nodup g6.inn
      refine ⟨_, ?_, L', (L.length : Int), o3, o4, e6, hst6, g6, ?_, rfl, rfl⟩
      · rw [if_pos hlt]
        rcases hor with ⟨rfl, _⟩ | hlt'
        · rw [if_neg (by omega)]; omega
        · rw [if_pos (by omega)]; omega
      · rcases hor with ⟨rfl, hall⟩ | hlt'
        · exact .inr hall
        · exact .inl (by omega)
  · have hnl : ¬ many < (L.length : Int) := of_decide_eq_false hx
    have hall : ∀ s, s < B.length → look L s = none → fitN B R L s = none := hstop.resolve_left hnl
    refine ⟨_, rfl, k a L H3 (e.trans e3) ha (e3 _ _ hst') g fun s t hrow hn ⟨o, h1, h2, h3⟩ => ?_⟩
    exact fitN_none hrow.1 (hall s hrow.1 hn) ⟨o, h1, h2, h3⟩ hrow.2
end
end BB
/-! D8: piece. -/
namespace BB
open PySem L2 Evl
section
variable {K : PySem.W.Frag} {σ : L2.St} {H H0 H2 : Hp} {tl : TE} {v : V} {ds : List PyData} {l d : Addr} {kvs : List (Key × V)} {o : HO}
theorem ei_lstV (h : Ev tl σ H v) (hd : Dp K H0 v (.list ds)) (e0 : Ex H0 H) : EI K (iList K tl) σ H (fun _ H' => Ex H0 H') ds := fun R k =>
  h H (Ex.refl _) _ fun H2 e2 => by
    obtain ⟨pa, xs, rfl, h1, h2⟩ := dp_lst hd
    exact ⟨pa, rfl, ⟨xs, ex_l (e0.trans e2) h1⟩, k _ H2 e2 (walk_lstD (fun H' g => ⟨ex_l g h1, h2.ex g⟩) h2.length)⟩
theorem ML.updD (h : ML K H l ds) (hd : H d = some (.dK kvs)) (hs : stayAll ds = true) : ML K (upd H d o) l ds := by
  obtain ⟨xs, h1, h2⟩ := h
  have : l ≠ d := fun e => by rw [e, hd] at h1; cases h1
  exact ⟨xs, by rw [upd_ne this]; exact h1, dpa_tk (TK.upd_dk hd) _ _ hs h2⟩
theorem Step.dk (s : Step l H H2) (hd : H d = some (.dK kvs)) : H2 d = some (.dK kvs) := by
  obtain ⟨H1, xs, ys, e1, h1, rfl⟩ := s
  have h2 := e1 _ _ hd
  have : d ≠ l := fun e => by rw [e, h1] at h2; cases h2
  rw [upd_ne this]; exact h2
end
/-- what a piece is -/
structure Pc (B : List (List Int)) (R : List (List (List Int))) (L : Lot) (s t : Nat) (L' : Lot) : Prop where
  nodup : (L'.map (·.1)).Nodup
  at_s : look L' s = some t
  from_ : ∀ o u, o ≠ s → look L' o = some u → look L o = some u ∧ Rch (nearB B) ((net B R).alwL (look L) s t) s o
  all_ : ∀ o, o ≠ s → Rch (nearB B) ((net B R).alwL (look L) s t) s o → look L' o = look L o
def PcSp (P : Program) (w : World) (K : PySem.W.Frag) (C : Addr) : Sp := fun vs H Q _ => ∃ x v1 v2 B R L s t, vs = [.ref x, v1, v2] ∧ FitsObj P w K C H x B R ∧ DataG B R ∧ LotV H v1 L ∧ LotIn B R L ∧ Dp K H v2 (rowD s t) ∧ (net B R).row s t ∧
  ∀ a L' H', Ex H H' → H a = none → H' a = some (.dK (lotK L')) → Pc B R L s t L' → Q (.ref a) H'
/-- found: the row, and rows of the lot, at the places met -/
structure Fnd (L : Lot) (s t : Nat) (met : List Nat) (F : Lot) : Prop where
  keys : F.map (·.1) = met
  nodup : met.Nodup
  at_s : look F s = some t
  rest : ∀ o ∈ met, o ≠ s → look F o = look L o
theorem Fnd.mem {L : Lot} {s t : Nat} {met : List Nat} {F : Lot} (f : Fnd L s t met F) {o : Nat} : (look F o).isSome = decide (o ∈ met) := by
  have : o ∈ met ↔ (look F o).isSome = true := by
    rw [← f.keys]
    constructor
    · intro h
      cases q : look F o with
      | some _ => rfl
      | none =>
        obtain ⟨p, hp, e⟩ := List.mem_map.mp h
        exact absurd e (look_none.mp q p hp)
    · intro h
      obtain ⟨u, hu⟩ := Option.isSome_iff_exists.mp h
      exact List.mem_map.mpr ⟨_, look_mem hu, rfl⟩
  by_cases h : o ∈ met
  · rw [decide_eq_true h, this.mp h]
  · rw [decide_eq_false h]
    cases q : (look F o).isSome with
    | false => rfl
    | true => exact absurd (this.mpr q) h
theorem Fnd.add {L : Lot} {s t : Nat} {met : List Nat} {F : Lot} (f : Fnd L s t met F) {o u : Nat} (hu : look L o = some u) (ho : o ∉ met) : Fnd L s t (met ++ [o]) (F ++ [(o, u)]) ∧ look F o = none := by
  have hn : look F o = none := by
    have := f.mem (o := o)
    rw [decide_eq_false ho] at this
    cases q : look F o with
    | none => rfl
    | some _ => rw [q] at this; cases this
  have hs : s ∈ met := by
    have := f.mem (o := s)
    rw [f.at_s] at this
    exact of_decide_eq_true this.symm
  refine ⟨⟨by rw [List.map_append, f.keys]; rfl, ?_, ?_, fun x hx hxs => ?_⟩, hn⟩
  · refine List.nodup_append.mpr ⟨f.nodup, by simp, fun a ha b hb e => ?_⟩
    rw [List.mem_singleton.mp hb] at e
    exact ho (e ▸ ha)
  · have hso : ¬ s = o := fun e => ho (by rw [← e]; exact hs)
    rw [look_app hn, if_neg hso]; exact f.at_s
  · rw [look_app hn]
    by_cases q : x = o
    · rw [if_pos q, q, hu]
    · rw [if_neg q]
      rcases List.mem_append.mp hx with h | h
      · exact f.rest x h hxs
      · exact absurd (List.mem_singleton.mp h) q
section
variable {P : Program} {w : World} {K : PySem.W.Frag} {mg : Str → Option Value} {base : Heap}
theorem fitsRow_eq {B : List (List Int)} {R : List (List (List Int))} {o u s t : Nat} (hr : (net B R).row s t) : fitsRowB B R o u s t = (!nearB B o s || agreeB B R o u s t) := by
  unfold fitsRowB
  have : decide (s ∈ besideN B o) = nearB B o s := by
    rw [Bool.eq_iff_iff, decide_eq_true_iff, besideN_mem]
    exact ⟨fun h => h.2, fun h => ⟨hr.1, h⟩⟩
  rw [this]
  cases h : nearB B o s with
  | false => rfl
  | true => rw [nearRB_of hr.1 hr.2 h]
/-- the list a source's beside stands as -/
theorem beside_at {C x : Addr} {H : Hp} {B : List (List Int)} {R : List (List (List Int))} (h : FitsObj P w K C H x B R) {k : Nat} (hk : k < B.length) (cl : Cls K C) (na : NoAttr K C "beside") :
    ∃ v, Dp K H v (.list ((besideN B k).map nD)) ∧ ∀ (σ : L2.St) (H1 : Hp) (i j : Nat), Ex H H1 → σ[i]? = some (some (.ref x)) → σ[j]? = some (some (.int (k : Int))) → Ev (tOp (rIxL K) (tFld K (tVar i) "beside") (tVar j)) σ H1 v := by
  obtain ⟨dx, vb, vd, ve, d, kvs, h1, h2, h3, h4, h5, h6⟩ := h
  obtain ⟨a, xs, rfl, g1, g2⟩ := dp_lst h4
  obtain ⟨v, g3, g4⟩ := g2.getD (beside_get hk)
  refine ⟨v, g4, fun σ H1 i j e hi hj H2 e2 Q q => ?_⟩
  exact ⟨_, hi, x, C, dx, _, _, rfl, e2 _ _ (e _ _ h1), cl, na, rfl, _, hj, a, xs, k, v, rfl, rfl, ex_l (e.trans e2) g1, atI_nat g3, q H2 (Ex.refl _)⟩
theorem sc_Fits_piece : FnScope ["self", "lot", "row", "found", "waiting", "here", "other"] ["self", "lot", "row"] (defScope st_Fits_piece) := ⟨rfl, rfl, rfl, by decide +kernel, rfl, by decide +kernel, by decide +kernel⟩
theorem ok_Fits_piece (T : Txt K mg) : FnOk P w K mg base CX0 2 T.m_piece_f T.m_piece_fd ["self", "lot", "row"] (PcSp P w K T.FC) := by
  refine T.m_piece_F.ok sc_Fits_piece ?len (fun cdv A outer s H vs Q E hr h => ?_)
  case len =>
    rintro vs H Q E ⟨x, v1, v2, B, R, L, s, t, rfl, _⟩
    rfl
  obtain ⟨x, v1, v2, B, R, L, s0, t0, rfl, hF, hD, hL, hin, p2, hrow, k⟩ := h
  refine ⟨_, (pss_cons (ps_set (i := 3) sc_Fits_piece.nd rfl (by first | exact Or.inl rfl | exact Or.inr rfl) (pe_disp (pps_cons (pe_ix (ixTK (K := K)) (pv 2) pe_int (fun _ _ => rfl)) (pe_ix (ixTK (K := K)) (pv 2) pe_int (fun _ _ => rfl)) pps_nil) rfl rfl (by simp) (by decide)))
      (pss_cons (ps_set (i := 4) sc_Fits_piece.nd rfl (by first | exact Or.inl rfl | exact Or.inr rfl) (pe_lst (pa_cons (pe_ix (ixTK (K := K)) (pv 2) pe_int (fun _ _ => rfl)) pa_nil)))
      (pss_cons (ps_while PassesOwn.never (pt_cmpR (neEK (K := K) hr) (pv 4) (pe_lst pa_nil) (nomark _))
      (pss_cons (ps_set (i := 5) sc_Fits_piece.nd rfl (by first | exact Or.inl rfl | exact Or.inr rfl) (pe_bm0 PySem.F.plainAttrs_list PySem.F.slot_list_pop PySem.F.type_list_pop mt_pop (pv 4)))
        (pss_one (ps_for PassesOwn.never rfl (piLK (K := K) (pe_ix (ixLK (K := K)) (fldK (K := K) (pv 0) rfl) (pv 5) (fun _ _ => rfl))) (pg_name (i := 6) sc_Fits_piece.nd rfl (by first | exact Or.inl rfl | exact Or.inr rfl))
        (pss_one (ps_if (PW.pt (pw_and (pt_cmp (pc_din (hu_of hr) (pv 6) (pv 1)) (by rfl)) (pw_and (pt_cmp (pc_dnotin (hu_of hr) (pv 6) (pv 3)) (by rfl)) (pw_and1 (pt_val (pe_meth (pv 0) T.clF T.m_fits_row (ok_Fits_fits_row T) (hr.mono (by decide)) T.m_fits_row_b .nil pass0 (pa_cons (pv 6) (pa_cons (pe_dget (hu_of hr) (pv 1) (pv 6) (fun _ _ => rfl)) (pa_cons (pv 2) pa_nil)))))))))
          (pss_cons (ps_dput (hu_of hr) (pv 3) (pv 6) (pe_dget (hu_of hr) (pv 1) (pv 6) (fun _ _ => rfl)) rfl)
            (pss_one (ps_expr (pe_bm PySem.F.plainAttrs_list PySem.F.slot_list_append PySem.F.type_list_append mt_append (pv 4) (pa_cons (pv 6) pa_nil)))))
          pss_nil))))))
      (pss_one (ps_ret (pv 3)))))), ?_⟩
  have hsm := hD.small
  let g := (net B R).alwL (look L) s0 t0
  have hgm : ∀ {o : Nat}, o ∈ g ↔ o < B.length ∧ (net B R).alw (look L) s0 t0 o = true := fun {o} => by
    show o ∈ (List.range B.length).filter _ ↔ _
    rw [List.mem_filter, List.mem_range]
  -- the display
  have hdisp : ∀ (tz : TS) (D : Ends), (∀ a H1, H a = none → Ex H H1 → H1 a = some (.dK (lotK [(s0, t0)])) → tz D [some (.ref x), some v1, some v2, some (.ref a), none, none, none] H1) →
      tSeq (tAsg (tDisp [(tOp (rIxT K) (tVar 2) (tC (.int 0)), tOp (rIxT K) (tVar 2) (tC (.int 1)))]) (gName 3)) tz D [some (.ref x), some v1, some v2, none, none, none, none] H := fun tz D hk a ha => by
    have en : Ex H (upd H a (.dK [])) := Ex.new ha
    refine ed_op (K := K) (ed_var (σ := [some (.ref x), some v1, some v2, none, none, none, none]) rfl (p2.ex en)) ed_int (rd_ixT (i := 0) rfl) _ (Ex.refl _) _ fun y H1 e1 py => ?_
    refine ed_op (K := K) (ed_var (σ := [some (.ref x), some v1, some v2, none, none, none, none]) rfl ((p2.ex en).ex e1)) ed_int (rd_ixT (i := 1) rfl) _ (Ex.refl _) _ fun z H2 e2 pz => ?_
    cases dp_int py; cases dp_int pz
    have h2 : H2 a = some (.dK []) := e2 _ _ (e1 _ _ upd_same)
    refine ⟨h2, lotK [(s0, t0)], rfl, by show 1 ≤ 15; decide, ?_⟩
    exact hk a _ ha (Ex.mut ((en.trans e1).trans e2) ha) upd_same
  refine hdisp _ _ fun a H1 ha e1 hst => ?_
  refine q_asgE (el_lst (eds_cons (ed_op (ed_var rfl (p2.ex e1)) ed_int (rd_ixT (i := 0) rfl)) eds_nil) (by show 1 ≤ 100000; decide)) fun lw H2 e2 hw mw => ?_
  have hw0 : H lw = none := fresh_back e1 hw
  have hgl : g.length ≤ B.length := by
    have := List.length_filter_le ((net B R).alw (look L) s0 t0) (List.range B.length)
    rwa [List.length_range] at this
  refine q_while (fun m σ' H' => ∃ (met wait : List Nat) (F : Lot) (o5 o6 : Option V), Ex H H' ∧ H' a = some (.dK (lotK F)) ∧ ML K H' lw (wait.map nD) ∧ Dfs (nearB B) g s0 met wait ∧ Fnd L s0 t0 met F ∧ wait.length ≤ met.length ∧ m = leftN g met + wait.length ∧ σ' = [some (.ref x), some v1, some v2, some (.ref a), some (.ref lw), o5, o6]) (leftN g [s0] + 1)
    ⟨[s0], [s0], [(s0, t0)], none, none, e1.trans e2, e2 _ _ hst, mw, .init, ⟨rfl, by simp, by simp [look_cons], fun o ho hne => absurd (List.mem_singleton.mp ho) hne⟩, Nat.le_refl _, rfl, rfl⟩ ?_
  rintro m σ' H' ⟨met, wait, F, o5, o6, e, hst', mw', dfs, fnd, hwl, rfl, rfl⟩
  refine ⟨!(wait.map nD).isEmpty, et_test (ed_op (mw'.ed rfl) (ed_lst (ds := []) eds_nil (by show 0 ≤ 100000; decide)) rd_neE), fun hx H3 e3 => ?_, fun hx H3 e3 => ?_⟩
  · have hwne : wait ≠ [] := by rintro rfl; simp at hx
    obtain ⟨w1, here, rfl⟩ : ∃ w1 here, wait = w1 ++ [here] := ⟨wait.dropLast, wait.getLast hwne, (List.dropLast_concat_getLast hwne).symm⟩
    have hhm : here ∈ met := dfs.sub here (by simp)
    have hmB : ∀ o ∈ met, o < B.length := fun o ho => by
      cases dfs.reach o ho with
      | base => exact hrow.1
      | step _ hx _ => exact (hgm.mp hx).1
    have hhB := hmB here hhm
    have hmetl : met.length ≤ B.length := Net.nodup_le fnd.nodup hmB
    refine ⟨_, fun σ2 H2 h => h, ?_⟩
    have mw3 := mw'.ex e3
    rw [List.map_append] at mw3
    refine q_popD mw3 rfl (stay_nats _) rfl fun hv H4 st4 mw4 ph => ?_
    have e4 : Ex H H4 := st4.ex0 (e.trans e3) hw0
    have hst4 := st4.dk (e3 _ _ hst')
    cases dp_int ph
    obtain ⟨vb, hvb, hev⟩ := beside_at hF hhB T.clF T.na_beside
    have hbn : (besideN B here).Nodup := List.nodup_range.sublist List.filter_sublist
    let cnd : Nat → Bool := fun o => !decide (o ∈ met) && (net B R).alw (look L) s0 t0 o
    refine s_forD (ei_lstV (hev _ H4 0 5 e4 rfl rfl) hvb e4) (fun H5 i σ' H' => ∃ (F' : Lot) (o6 : Option V), Ex H H' ∧ H' a = some (.dK (lotK F')) ∧ ML K H' lw ((w1 ++ ((besideN B here).take i).filter cnd).map nD) ∧ Fnd L s0 t0 (met ++ ((besideN B here).take i).filter cnd) F' ∧ σ' = [some (.ref x), some v1, some v2, some (.ref a), some (.ref lw), some (.int (here : Int)), o6])
      (fun H5 e5 => ⟨F, o6, e4.trans e5, e5 _ _ hst4, by rw [List.take_zero, List.filter_nil, List.append_nil]; exact mw4.ex e5, by rw [List.take_zero, List.filter_nil, List.append_nil]; exact fnd, rfl⟩) (fun _ _ _ _ _ h => by obtain ⟨_, _, h, _⟩ := h; exact h) ?_ ?_
    · rintro H5 i d y σ' H6 H7 e5 hd ⟨F', o6, e6, hst6, mw6, fnd6, rfl⟩ e67 py
      obtain ⟨o, ho, rfl⟩ := map_get hd
      show tIfS _ _ _ _ [some (.ref x), some v1, some v2, some (.ref a), some (.ref lw), some (.int (here : Int)), some y] H7
      have e7 := e6.trans e67
      have hob := besideN_mem.mp (List.mem_of_getElem? ho)
      have hoT : o ∉ (besideN B here).take i := nodup_take hbn ho
      have hoi : o ∈ met ++ ((besideN B here).take i).filter cnd ↔ o ∈ met := by
        rw [List.mem_append]
        exact ⟨fun h => h.elim id fun h => absurd (List.mem_filter.mp h).1 hoT, .inl⟩
      have hst7 := e67 _ _ hst6
      have hnd : ((F'.map (·.1))).Nodup := by rw [fnd6.keys]; exact fnd6.nodup
      have hF7 : LotV H7 (.ref a) F' := LotV.of hst7 hnd
      have eT : (besideN B here).take (i + 1) = (besideN B here).take i ++ [o] := take_succ_of ho
      have hcnd : cnd o = ((look L o).isSome && (!(look F' o).isSome && (match look L o with | none => false | some u => fitsRowB B R o u s0 t0))) := by
        show (!decide (o ∈ met) && (net B R).alw (look L) s0 t0 o) = _
        rw [fnd6.mem, show decide (o ∈ met ++ ((besideN B here).take i).filter cnd) = decide (o ∈ met) by rw [decide_eq_decide]; exact hoi]
        unfold Net.alw
        by_cases hm : o ∈ met
        · rw [decide_eq_true hm]; simp
        · have hos : o ≠ s0 := fun e => hm (e ▸ dfs.start)
          rw [decide_eq_false hm, decide_eq_false hos]
          cases hq : look L o with
          | none => rfl
          | some u =>
            show (true && (true && (!nearB B o s0 || agreeB B R o u s0 t0))) = (true && (true && fitsRowB B R o u s0 t0))
            rw [fitsRow_eq hrow]
      refine s_ifD (x := cnd o) (ET.is (et_and (et_B (ed_dIn (ed_var rfl py) rfl (hL.ex e7))) fun h1 => et_and (et_B (ed_dNotIn (ed_var rfl py) rfl hF7)) fun _ => et_B (K := K) (x := match look L o with | none => false | some u => fitsRowB B R o u s0 t0) ?_) hcnd.symm) (fun hc H8 e8 => ?_) (fun hc H8 e8 => ?_)
      · obtain ⟨u, hu⟩ := Option.isSome_iff_exists.mp h1
        rw [hu]
        exact ed_meth (o, u, s0, t0) rfl (hF.ex e7) hD (fun _ _ _ _ => rfl) ((ea_d (ed_var rfl py) (ea_d (ed_dGet rfl (hL.ex e7) (ed_var rfl py) hu) (ea_d (ed_var rfl (p2.ex e7)) ea_nil'))).to fun H8 vs e8 hv => by
          obtain ⟨u1, r1, rfl, q1, u2, r2, rfl, q2, u3, r3, rfl, q3, rfl⟩ := hv
          exact ⟨_, _, _, rfl, q1, q2, q3, hin o u hu⟩)
      · have hc' : (!decide (o ∈ met) && (net B R).alw (look L) s0 t0 o) = true := hc
        rw [Bool.and_eq_true] at hc'
        have hm : o ∉ met := fun h => by rw [decide_eq_true h] at hc'; exact absurd hc'.1 (by decide)
        obtain ⟨u, hu⟩ : ∃ u, look L o = some u := by
          have := hc'.2
          unfold Net.alw at this
          cases q : look L o with
          | some u => exact ⟨u, rfl⟩
          | none => rw [q, Bool.and_false] at this; cases this
        obtain ⟨fnd8, hno⟩ := fnd6.add hu (fun h => hm (hoi.mp h))
        have e08 := e7.trans e8
        have hst8 := e8 _ _ hst7
        have py8 := py.ex e8
        cases dp_int py8
        refine ed_dGet (K := K) (σ := [some (.ref x), some v1, some v2, some (.ref a), some (.ref lw), some (.int (here : Int)), some (.int (o : Int))]) rfl (hL.ex e08) (ed_var rfl (Dp.int _)) hu H8 (Ex.refl _) _ fun z H9 e9 pz => ?_
        cases dp_int pz
        have hst9 := e9 _ _ hst8
        have hFl : F'.length ≤ B.length := by
          have h1 : (F'.map (·.1)).length ≤ B.length := Net.nodup_le hnd fun z hz => by
            rw [fnd6.keys] at hz
            rcases List.mem_append.mp hz with h | h
            · exact hmB z h
            · exact (besideN_mem.mp (List.mem_of_mem_take (List.mem_filter.mp h).1)).1
          rwa [List.length_map] at h1
        refine ⟨_, rfl, _, rfl, a, _, rfl, DPut.k (k := Sum.inl (o : Int)) hst9 (by rw [lotK_len]; exact sz_lt (by omega)), ?_⟩
        rw [lotK_put hno]
        have mw9 : ML K (upd H9 a (.dK (lotK (F' ++ [(o, u)])))) lw _ := (((mw6.ex e67).ex e8).ex e9).updD hst9 (stay_nats _)
        have hwl9 : ((w1 ++ ((besideN B here).take i).filter cnd).map nD).length < 100000 := by
          rw [List.length_map, List.length_append]
          have h1 : (((besideN B here).take i).filter cnd).length ≤ (besideN B here).length := Nat.le_trans (List.length_filter_le _ _) (by rw [List.length_take]; omega)
          have h2 := besideN_len B here
          rw [List.length_append] at hwl
          omega
        refine s_appD mw9 rfl (stay_nats _) (ed_var rfl (Dp.int (o : Int))) rfl hwl9 fun H10 st10 mw10 => ?_
        refine ⟨F' ++ [(o, u)], _, st10.ex0 (Ex.mut (e08.trans e9) ha) hw0, st10.dk upd_same, ?_, ?_, rfl⟩
        · have : (w1 ++ ((besideN B here).take (i + 1)).filter cnd).map nD = (w1 ++ ((besideN B here).take i).filter cnd).map nD ++ [nD o] := by
            rw [eT, List.filter_append]
            have : [o].filter cnd = [o] := by simp [hc]
            rw [this, ← List.append_assoc, List.map_append]; rfl
          rw [this]; exact mw10
        · have : met ++ ((besideN B here).take (i + 1)).filter cnd = (met ++ ((besideN B here).take i).filter cnd) ++ [o] := by
            rw [eT, List.filter_append]
            have : [o].filter cnd = [o] := by simp [hc]
            rw [this, List.append_assoc]
          rw [this]; exact fnd8
      · have eF : ((besideN B here).take (i + 1)).filter cnd = ((besideN B here).take i).filter cnd := by
          rw [eT, List.filter_append]
          have : [o].filter cnd = [] := by simp [hc]
          rw [this, List.append_nil]
        exact ⟨F', _, e7.trans e8, e8 _ _ hst7, by rw [eF]; exact (mw6.ex e67).ex e8, by rw [eF]; exact fnd6, rfl⟩
    · rintro H5 σ' H6 e5 ⟨F', o6, e6, hst6, mw6, fnd6, rfl⟩
      rw [List.length_map, List.take_length] at mw6 fnd6
      have hl : (besideN B here).filter cnd = laterN (nearB B) g met here := by
        show ((List.range B.length).filter _).filter cnd = ((List.range B.length).filter _).filter _
        rw [List.filter_filter, List.filter_filter]
        refine List.filter_congr fun o _ => ?_
        show (cnd o && nearB B here o) = ((!decide (o ∈ met) && nearB B here o) && (net B R).alw (look L) s0 t0 o)
        show ((!decide (o ∈ met) && (net B R).alw (look L) s0 t0 o) && nearB B here o) = _
        cases decide (o ∈ met) <;> cases (net B R).alw (look L) s0 t0 o <;> cases nearB B here o <;> rfl
      rw [hl] at mw6 fnd6
      have hlt := left_turn (nr := nearB B) (g := g) (met := met) (here := here)
      refine ⟨_, ?_, met ++ laterN (nearB B) g met here, w1 ++ laterN (nearB B) g met here, F', _, _, e6, hst6, mw6, dfs.turn, fnd6, ?_, rfl, rfl⟩
      · rw [List.length_append, List.length_append]
        simp only [List.length_singleton]
        omega
      · rw [List.length_append] at hwl
        simp only [List.length_append]
        simp at hwl
        omega
  · have : wait = [] := by cases wait with
      | nil => rfl
      | cons _ _ => simp at hx
    subst this
    have hme := dfs.end'
    refine ⟨_, rfl, k a F H3 (e.trans e3) ha (e3 _ _ hst') ⟨by rw [fnd.keys]; exact fnd.nodup, fnd.at_s, fun o u hne hu => ?_, fun o hne hr => fnd.rest o ((hme o).mpr hr) hne⟩⟩
    have hom : o ∈ met := by
      have := fnd.mem (o := o)
      rw [hu] at this
      exact of_decide_eq_true this.symm
    exact ⟨by rw [← fnd.rest o hom hne]; exact hu, (hme o).mp hom⟩
end
end BB
/-! D9: rows_beside. -/
namespace BB
open PySem L2 Evl
theorem nodup_sub {α : Type} [DecidableEq α] : ∀ {l m : List α}, l.Nodup → (∀ x ∈ l, x ∈ m) → l.length ≤ m.length
  | [], m, _, _ => Nat.zero_le _
  | x :: l, m, hn, h => by
    rw [List.nodup_cons] at hn
    have hx := h x List.mem_cons_self
    have := nodup_sub (l := l) (m := m.erase x) hn.2 fun y hy => (List.mem_erase_of_ne (fun (e : y = x) => hn.1 (by rw [← e]; exact hy))).mpr (h y (List.mem_cons_of_mem _ hy))
    rw [List.length_erase_of_mem hx] at this
    have : 0 < m.length := List.length_pos_of_mem hx
    rw [List.length_cons]
    omega
/-! ### the hash of a row's key -/
def hh (s t : Nat) : Int := reduceHash (Builtin.Tuple.tupleHashOf [hashInt (s : Int), hashInt (t : Int)])
theorem hh_eq (w : World) (s t : Nat) : (rowK s t).hash w = hh s t := rfl
theorem hh_all : ((List.range 4).all fun s => (List.range 3).all fun t => (List.range 4).all fun s' => (List.range 3).all fun t' => (decide (hh s t = hh s' t') → (s == s' && t == t'))) = true := by decide +kernel
theorem hh_inj {s t s' t' : Nat} (h1 : s < 4) (h2 : t < 3) (h3 : s' < 4) (h4 : t' < 3) (h : hh s t = hh s' t') : rowK s t = rowK s' t' := by
  have a1 := List.all_eq_true.mp hh_all s (List.mem_range.mpr h1)
  have a2 := List.all_eq_true.mp a1 t (List.mem_range.mpr h2)
  have a3 := List.all_eq_true.mp a2 s' (List.mem_range.mpr h3)
  have a4 := List.all_eq_true.mp a3 t' (List.mem_range.mpr h4)
  simp only [decide_eq_true_eq] at a4
  have a5 := a4 (by simpa using h)
  simp only [Bool.and_eq_true, beq_iff_eq] at a5
  rw [a5.1, a5.2]
/-! ### entries -/
section
variable {kvs more : List (NestedKey × V)} {k : NestedKey}
theorem keys_iff : k ∈ kvs.map (·.1) ↔ (valV kvs k).isSome = true := by
  rw [← valV_any, List.any_eq_true, List.mem_map]
  exact ⟨fun ⟨p, h, e⟩ => ⟨p, h, decide_eq_true e⟩, fun ⟨p, h, e⟩ => ⟨p, h, of_decide_eq_true e⟩⟩
theorem putK_is {j : NestedKey} {v : V} : (valV (putK kvs k v) j).isSome = (decide (j = k) || (valV kvs j).isSome) := by
  rw [valV_put]
  by_cases h : j = k
  · rw [if_pos h, decide_eq_true h]; rfl
  · rw [if_neg h, decide_eq_false h]; rfl
theorem mergeN_is : ∀ {more kvs : List (NestedKey × V)} {j : NestedKey}, (valV (mergeN kvs more) j).isSome = ((valV kvs j).isSome || (valV more j).isSome)
  | [], kvs, j => by
    show (valV kvs j).isSome = ((valV kvs j).isSome || (valV [] j).isSome)
    rw [valV_nil]; simp
  | p :: more, kvs, j => by
    show (valV (mergeN (putK kvs p.1 p.2) more) j).isSome = _
    rw [mergeN_is, putK_is]
    by_cases h : p.1 = j
    · rw [valV_pos h, decide_eq_true h.symm]; simp
    · rw [valV_neg h, decide_eq_false (Ne.symm h)]; simp
end
/-- the rows that may be -/
def rowsK : List NestedKey := (List.range 4).flatMap fun s => (List.range 3).map fun t => rowK s t
theorem rowsK_mem {B : List (List Int)} {R : List (List (List Int))} (hD : DataG B R) {s t : Nat} (h : (net B R).row s t) : rowK s t ∈ rowsK := by
  have h1 : s < B.length := h.1
  have h2 : t < (R.getD s []).length := h.2
  have hsR : s < R.length := by rw [hD.len]; exact h1
  have h3 := hD.few _ (List.mem_of_getElem? (getD_of (d := []) hsR))
  have h4 := hD.small
  exact List.mem_flatMap.mpr ⟨s, List.mem_range.mpr (by omega), List.mem_map.mpr ⟨t, List.mem_range.mpr (by omega), rfl⟩⟩
theorem row_small {B : List (List Int)} {R : List (List (List Int))} (hD : DataG B R) {s t : Nat} (h : (net B R).row s t) : s < 4 ∧ t < 3 ∨ s < 4 ∧ t < 4 := by
  have h1 : s < B.length := h.1
  have h2 : t < (R.getD s []).length := h.2
  have hsR : s < R.length := by rw [hD.len]; exact h1
  have h3 := hD.few _ (List.mem_of_getElem? (getD_of (d := []) hsR))
  have h4 := hD.small
  exact .inl ⟨by omega, by omega⟩
/-- keys that are rows -/
def RowKeys (B : List (List Int)) (R : List (List (List Int))) (kvs : List (NestedKey × V)) : Prop := ∀ k ∈ kvs.map (·.1), ∃ j b, k = rowK j b ∧ (net B R).row j b
theorem RowKeys.len {B : List (List Int)} {R : List (List (List Int))} (hD : DataG B R) {kvs : List (NestedKey × V)} (h : RowKeys B R kvs) (hn : (kvs.map (·.1)).Nodup) : kvs.length ≤ 12 := by
  have : (kvs.map (·.1)).length ≤ rowsK.length := nodup_sub hn fun k hk => by
    obtain ⟨j, b, rfl, hr⟩ := h k hk
    exact rowsK_mem hD hr
  rw [List.length_map] at this
  exact this
theorem RowKeys.hash {B : List (List Int)} {R : List (List (List Int))} (hD : DataG B R) (w : World) {kvs : List (NestedKey × V)} (h : RowKeys B R kvs) (hn : (kvs.map (·.1)).Nodup) : (kvs.map fun p => p.1.hash w).Nodup := by
  have e : (kvs.map fun p => p.1.hash w) = (kvs.map (·.1)).map (NestedKey.hash w) := by rw [List.map_map]; rfl
  rw [e]
  have key : ∀ l : List NestedKey, (∀ k ∈ l, ∃ j b, k = rowK j b ∧ (net B R).row j b) → l.Nodup → (l.map (NestedKey.hash w)).Nodup := by
    intro l
    induction l with
    | nil => intro _ _; exact List.nodup_nil
    | cons x l ih =>
      intro hl hn
      rw [List.nodup_cons] at hn
      rw [List.map_cons, List.nodup_cons]
      refine ⟨fun hm => ?_, ih (fun k hk => hl k (List.mem_cons_of_mem _ hk)) hn.2⟩
      obtain ⟨y, hy, he⟩ := List.mem_map.mp hm
      obtain ⟨j, b, rfl, hr⟩ := hl x List.mem_cons_self
      obtain ⟨j', b', rfl, hr'⟩ := hl y (List.mem_cons_of_mem _ hy)
      rw [hh_eq, hh_eq] at he
      have h1 : j < 4 ∧ b < 3 := by
        have h1 : j < B.length := hr.1
        have h2 : b < (R.getD j []).length := hr.2
        have hsR : j < R.length := by rw [hD.len]; exact h1
        have h3 := hD.few _ (List.mem_of_getElem? (getD_of (d := []) hsR))
        have h4 := hD.small
        exact ⟨by omega, by omega⟩
      have h2 : j' < 4 ∧ b' < 3 := by
        have h1 : j' < B.length := hr'.1
        have h2 : b' < (R.getD j' []).length := hr'.2
        have hsR : j' < R.length := by rw [hD.len]; exact h1
        have h3 := hD.few _ (List.mem_of_getElem? (getD_of (d := []) hsR))
        have h4 := hD.small
        exact ⟨by omega, by omega⟩
      have := hh_inj h2.1 h2.2 h1.1 h1.2 he
      exact hn.1 (this ▸ hy)
  exact key _ h hn
theorem RowKeys.rows {B : List (List Int)} {R : List (List (List Int))} {kvs : List (NestedKey × V)} (h : RowKeys B R kvs) : ∃ rs : List (Nat × Nat), kvs.map (·.1) = rs.map (fun p => rowK p.1 p.2) := by
  unfold RowKeys at h
  generalize kvs.map (·.1) = l at h
  induction l with
  | nil => exact ⟨[], rfl⟩
  | cons k l ih =>
    obtain ⟨rs, e⟩ := ih fun k hk => h k (List.mem_cons_of_mem _ hk)
    obtain ⟨j, b, rfl, _⟩ := h k List.mem_cons_self
    exact ⟨(j, b) :: rs, by rw [e]; rfl⟩
/-- the rows beside a lot -/
def Rb (B : List (List Int)) (R : List (List (List Int))) (L : Lot) (rs : List (Nat × Nat)) : Prop := rs.length ≤ 12 ∧ ∀ j b, (j, b) ∈ rs ↔ (∃ o u, look L o = some u ∧ nearRB B R o u j b = true) ∧ look L j ≠ some b
abbrev rowP (p : Nat × Nat) : PyData := rowD p.1 p.2
def RbSp (P : Program) (w : World) (K : PySem.W.Frag) (C : Addr) : Sp := fun vs H Q _ => ∃ x a B R L, vs = [.ref x, .ref a] ∧ FitsObj P w K C H x B R ∧ DataG B R ∧ H a = some (.dK (lotK L)) ∧ (L.map (·.1)).Nodup ∧ LotIn B R L ∧
  ∀ l xs rs H', Ex H H' → H l = none → H' l = some (.lst xs) → DpAll K H' xs (rs.map rowP) → Rb B R L rs → Q (.ref l) H'
section
variable {P : Program} {w : World} {K : PySem.W.Frag} {H H' : Hp} {d a : Addr} {kvs : List (NestedKey × V)} {σ : L2.St} {i : Nat} {o : HO}
theorem dpa_at : ∀ {xs : List V} {ds : List PyData} {i : Nat} {x : V}, DpAll K H xs ds → xs[i]? = some x → ∃ d, ds[i]? = some d ∧ Dp K H x d := fun h e => h.get e
/-- a dict with tuple keys, walked -/
theorem ei_keysN (hs : σ[i]? = some (some (.ref d))) (h : DN P w K H d kvs) : EI K (iKeysN P w (tVar i)) σ H Ex (kvs.map fun p => p.1.data) := fun R k => by
  obtain ⟨xs, ep, h1, h2, h3, h4, h5⟩ := h
  have hd := h5.dps
  refine ⟨_, hs, d, xs, ep, rfl, h1, h2, k _ H (Ex.refl _) ⟨fun j H' hj g => ?_, fun H' g => ?_, fun j H' x H'' hj g y => ?_⟩⟩
  · exact ⟨g _ _ h1, by rw [List.length_map, h5.len] at hj; exact hj⟩
  · exact ⟨g _ _ h1, by rw [List.length_map, h5.len]; exact Nat.le_refl _⟩
  · obtain ⟨rfl, q, hq, rfl⟩ := y
    refine ⟨Ex.refl _, ?_⟩
    have : (xs.map fun q => V.ref q.2.1)[j]? = some (.ref q.2.1) := by rw [List.getElem?_map, hq]; rfl
    obtain ⟨dd, e1, e2⟩ := hd.get this
    exact ⟨dd, e1, e2.ex g⟩
theorem TK.upd_frz {ob : Obj} {ks : List (Key × V)} (h : H a = some (.frz ob (.dK ks))) : TK H (upd H a o) := fun b ys r => by
  have ne : b ≠ a := by
    rintro rfl
    rcases r with r | ⟨_, r⟩ <;> (rw [h] at r; cases r)
  rcases r with r | ⟨z, r⟩
  · exact .inl (by rw [upd_ne ne]; exact r)
  · exact .inr ⟨z, by rw [upd_ne ne]; exact r⟩
end
section
variable {P : Program} {w : World} {K : PySem.W.Frag} {mg : Str → Option Value} {base : Heap}
theorem sc_Fits_rows_beside : FnScope ["self", "lot", "found", "source", "row"] ["self", "lot"] (defScope st_Fits_rows_beside) := ⟨rfl, rfl, rfl, by decide +kernel, rfl, by decide +kernel, by decide +kernel⟩
theorem ok_Fits_rows_beside (T : Txt K mg) : FnOk P w K mg base CX0 1 T.m_rows_beside_f T.m_rows_beside_fd ["self", "lot"] (RbSp P w K T.FC) := by
  refine T.m_rows_beside_F.ok sc_Fits_rows_beside ?len (fun cdv A outer s H vs Q E hr h => ?_)
  case len =>
    rintro vs H Q E ⟨x, a, B, R, L, rfl, _⟩
    rfl
  obtain ⟨x, a, B, R, L, rfl, hF, hD, hLa, hnd, hin, k⟩ := h
  refine ⟨_, (pss_cons (ps_set (i := 2) sc_Fits_rows_beside.nd rfl (by first | exact Or.inl rfl | exact Or.inr rfl) (newNK (P := P) (w := w) (K := K)))
      (pss_cons (ps_lock (ps_for PassesOwn.never rfl (pi_keys (pv 1)) (pg_name (i := 3) sc_Fits_rows_beside.nd rfl (by first | exact Or.inl rfl | exact Or.inr rfl))
      (pss_one (ps_expr (pe_updN (P := P) (w := w) (K := K) (room_n hr) (pv 2) (getNK (P := P) (w := w) (K := K) (room_n hr) (fldK (K := K) (pv 0) rfl) (pe_tup (pa_cons (pv 3) (pa_cons (pe_dget (hu_of hr) (pv 1) (pv 3) (fun _ _ => rfl)) pa_nil))) (fun _ _ => rfl)) ⟨rfl, rfl, rfl, rfl⟩)))))
      (pss_one (ps_ret (pe_lc (own := [("row", 4)]) rfl sc_Fits_rows_beside.nd (keysNK (P := P) (w := w) (pv 2)) (blkOk_by (own := [("row", 4)]) (N := ["self", "lot", "found", "source", "row"]) (sc := defScope st_Fits_rows_beside) (by decide +kernel)) (fun _ _ _ _ _ => (pg_name (i := 4) sc_Fits_rows_beside.nd rfl (by first | exact Or.inl rfl | exact Or.inr rfl))) (fun _ _ _ _ _ => pts_one (pt_cmpR op_ne (pe_dget1 (hu_of hr) (pv 1) (pe_ix (ixTK (K := K)) (pv 4) pe_int (fun _ _ => rfl)) ⟨rfl, rfl, rfl, rfl⟩) (pe_ix (ixTK (K := K)) (pv 4) pe_int (fun _ _ => rfl)) (nomark _))) (fun _ _ _ _ _ => (pv 4))))))), ?_⟩
  have hsm := hD.small
  refine fun d H1 hd hu hdn => ?_
  obtain ⟨φ, rfl⟩ := hu
  have hda : a ≠ d := fun e => by rw [← e, hLa] at hd; cases hd
  -- the dict is walked, locked
  refine ⟨a, .dK (lotK L), by rw [upd_ne hda]; exact hLa, trivial, fun od => ?_⟩
  have hlk : (upd (upd H d (.ext φ)) a (.frz od (.dK (lotK L)))) a = some (.frz od (.dK (lotK L))) := upd_same
  refine ⟨_, rfl, a, od, rfl, .inl ⟨lotK L, hlk, ?_⟩⟩
  refine for_it walk_keys (fun i σ' H' => H' a = some (.frz od (.dK (lotK L))) ∧ (∀ b o, b ≠ a → H b = some o → H' b = some o) ∧ (∃ kvs, DN P w K H' d kvs ∧ RowKeys B R kvs ∧ ∀ j b, (valV kvs (rowK j b)).isSome = (L.take i).any fun p => nearRB B R p.1 p.2 j b) ∧ ∃ o3, σ' = [some (.ref x), some (.ref a), some (.ref d), o3, none])
    ⟨hlk, fun b o hb h => by rw [upd_ne hb, upd_ne (fun e => by rw [e, hd] at h; cases h)]; exact h, ⟨[], hdn.tk (TK.upd_dk (by rw [upd_ne hda]; exact hLa)) (by rw [upd_ne (Ne.symm hda)]), fun k hk => absurd hk (by simp), fun j b => by rw [List.take_zero]; rfl⟩, none, rfl⟩ (fun i σ' H' _ h => h.1) ?_ ?_
  · rintro i y σ' H' H'' hi ⟨hfa, hot, ⟨kvs, hdn', hrk, hval⟩, o3, rfl⟩ ⟨rfl, kk, vv, hkv, rfl⟩
    obtain ⟨⟨o, u⟩, ho, e⟩ := map_get hkv
    cases e
    show tDrop _ _ [some (.ref x), some (.ref a), some (.ref d), some (.int (o : Int)), none] H''
    have hu : look L o = some u := look_of_mem hnd (List.mem_of_getElem? ho)
    have hrow := hin o u hu
    have hnx : NX H H'' := fun b ob hb hno => hot b ob (fun e => by rw [e, hLa] at hb; cases hb; exact hno _ rfl) hb
    have hF' := hF.nx hnx
    have hL' : LotV H'' (.ref a) L := ⟨a, rfl, .inr ⟨od, hfa⟩, hnd⟩
    obtain ⟨dx, vb, vd, ve, dn, kn, g1, g2, g3, g4, g5, g6⟩ := id hF
    replace g1 := hnx x _ g1 fun _ z => (nomatch z)
    replace g5 := g5.nx hnx
    obtain ⟨e1, kv2, f1, f2, f3⟩ := g6 o u hrow
    have hde : d ≠ e1 := fun e => by
      obtain ⟨φ1, h1⟩ := f2.some
      rw [← e, hd] at h1; cases h1
    replace f2 := f2.nx hnx
    refine ⟨_, rfl, d, kvs, rfl, hdn', ?_⟩
    refine ⟨_, rfl, x, T.FC, dx, _, _, rfl, g1, T.clF, T.na_near, rfl, ?_⟩
    refine ed_tup (K := K) (σ := [some (.ref x), some (.ref a), some (.ref d), some (.int (o : Int)), none]) (eds_cons (ed_var (i := 3) rfl (Dp.int (o : Int))) (eds_cons (ed_dGet (i := 1) (ty := tVar 3) rfl hL' (ed_var rfl (Dp.int (o : Int))) hu) eds_nil)) (by show 2 ≤ 100000; decide) H'' (Ex.refl _) _ fun y H3 e3 py => ?_
    refine ⟨dn, kn, rowK o u, .ref e1, rfl, g5.ex e3, rowK_key o u, py, f1, ?_⟩
    have hl1 := hrk.len hD hdn'.nodup
    have hrk2 : RowKeys B R kv2 := f3.2
    have hl2 := hrk2.len hD f2.nodup
    refine ⟨d, e1, kvs, kv2, rfl, rfl, hde, hdn'.ex e3, f2.ex e3, .inr (hrk2.hash hD w f2.nodup), by omega, fun H4 st4 dn4 => ?_⟩
    obtain ⟨H5, φ1, ψ1, e5, h5, rfl⟩ := st4
    have hd4 : ∀ b, b ≠ d → upd H5 d (.ext ψ1) b = H5 b := fun b hb => upd_ne hb
    refine ⟨by rw [hd4 a hda]; exact e5 _ _ (e3 _ _ hfa), fun b o hb h => ?_, ⟨_, dn4, fun k hk => ?_, fun j b => ?_⟩, _, rfl⟩
    · rw [hd4 b (fun e => by rw [e, hd] at h; cases h)]
      exact e5 _ _ (e3 _ _ (hot b o hb h))
    · rw [keys_iff, mergeN_is, Bool.or_eq_true] at hk
      rcases hk with h | h
      · exact hrk k (keys_iff.mpr h)
      · exact hrk2 k (keys_iff.mpr h)
    · rw [mergeN_is, hval, f3.1]
      have : L.take (i + 1) = L.take i ++ [(o, u)] := take_succ_of ho
      rw [this, List.any_append]
      simp
  · rintro σ' H' ⟨hfa, hot, ⟨kvs, hdn', hrk, hval⟩, o3, rfl⟩
    refine ⟨hfa, ?_⟩
    rw [lotK_len, List.take_length] at hval
    have e7 : Ex H (upd H' a (.dK (lotK L))) := fun b o h => by
      by_cases hb : b = a
      · rw [hb] at h ⊢; rw [upd_same, ← hLa]; exact h
      · rw [upd_ne hb]; exact hot b o hb h
    have hdn7 : DN P w K (upd H' a (.dK (lotK L))) d kvs := hdn'.tk (TK.upd_frz hfa) (upd_ne (Ne.symm hda))
    have hL7 : LotV (upd H' a (.dK (lotK L))) (.ref a) L := LotV.of upd_same hnd
    have hl1 := hrk.len hD hdn7.nodup
    obtain ⟨rs, hrs⟩ := hrk.rows
    have hds : (kvs.map fun p => p.1.data) = rs.map rowP := by
      have : (kvs.map fun p => p.1.data) = (kvs.map (·.1)).map NestedKey.data := by rw [List.map_map]; rfl
      rw [this, hrs, List.map_map]; rfl
    have hrl : rs.length = kvs.length := by
      have := congrArg List.length hrs
      rw [List.length_map, List.length_map] at this
      exact this.symm
    have hel : EL K (tLc (iKeysN P w (tVar 2)) (gName 4) (tTest (tOp rNe (tDGet1 (tVar 1) (tOp (rIxT K) (tVar 4) (tC (.int 0)))) (tOp (rIxT K) (tVar 4) (tC (.int 1))))) (tVar 4) [4]) [some (.ref x), some (.ref a), some (.ref d), o3, none] (upd H' a (.dK (lotK L))) ((rs.filter fun p => !decide (look L p.1 = some p.2)).map rowP) :=
      el_lc (xs := rs) (enc := rowP) (f := fun p => !decide (look L p.1 = some p.2)) (w := rowP) (fun H8 e8 => by rw [← hds]; exact ei_keysN rfl (hdn7.ex e8)) (by omega) (fun _ _ _ => rfl) (fun _ => rfl)
        (fun p y H8 hp e8 py => et_test (ed_op (ed_dGet1 rfl (hL7.ex e8) (ed_op (ed_var rfl py) ed_int (rd_ixT (d := nD p.1) (i := 0) rfl))) (ed_op (ed_var rfl py) ed_int (rd_ixT (d := tagD (some p.2)) (i := 1) rfl)) rd_neTag)) (fun p y H8 hp e8 py _ => ed_var rfl py)
    refine hel _ (Ex.refl _) _ fun l xs H8 hl e8 h8 d8 => ?_
    refine k l xs _ H8 (e7.trans e8) (fresh_back e7 hl) h8 d8 ⟨?_, fun j b => ?_⟩
    · exact Nat.le_trans (List.length_filter_le _ _) (by omega)
    · have hm : (j, b) ∈ rs ↔ ∃ o u, look L o = some u ∧ nearRB B R o u j b = true := by
        have h1 : (j, b) ∈ rs ↔ rowK j b ∈ kvs.map (·.1) := by
          rw [hrs, List.mem_map]
          exact ⟨fun h => ⟨_, h, rfl⟩, fun ⟨p, h, e⟩ => by
            obtain ⟨e1, e2⟩ := rowK_inj e
            have : p = (j, b) := by rw [← e1, ← e2]
            exact this ▸ h⟩
        rw [h1, keys_iff, hval, List.any_eq_true]
        exact ⟨fun ⟨p, h, e⟩ => ⟨p.1, p.2, look_of_mem hnd h, e⟩, fun ⟨o, u, h, e⟩ => ⟨(o, u), look_mem h, e⟩⟩
      rw [List.mem_filter, hm]
      simp
end
end BB
/-! D10: what fits, while it is made: rows, hold. -/
namespace BB
open PySem L2 Evl
/-! ### lists and tuples kept -/
structure KL (H H' : Hp) : Prop where
  l : ∀ a xs, Rd H a (.lst xs) → Rd H' a (.lst xs)
  t : TK H H'
mutual
theorem dp_kl {K : PySem.W.Frag} {H H' : Hp} (e : KL H H') : ∀ (d : PyData) (v : V), Dp K H v d → Dp K H' v d
  | _, _, .non => .non
  | _, _, .bl b => .bl b
  | _, _, .int i => .int i
  | _, _, .str x => .str x
  | .list ds, _, .lst h a => .lst (h.imp (fun r => e.l _ _ r) id) (dpa_kl e ds _ a)
  | .tuple ds, _, .tup h a => .tup (h.imp (fun r => e.t _ _ r) id) (dpa_kl e ds _ a)
theorem dpa_kl {K : PySem.W.Frag} {H H' : Hp} (e : KL H H') : ∀ (ds : List PyData) (vs : List V), DpAll K H vs ds → DpAll K H' vs ds
  | [], _, .nil => .nil
  | d :: ds, _, .cons h t => .cons (dp_kl e d _ h) (dpa_kl e ds _ t)
end
/-- all but dicts with tuple keys kept -/
def KX (H H' : Hp) : Prop := ∀ a o, H a = some o → (∀ φ, o ≠ .ext φ) → H' a = some o
theorem KX.of_ex {H H' : Hp} (e : Ex H H') : KX H H' := fun a o h _ => e a o h
theorem KX.trans {H H1 H2 : Hp} (a : KX H H1) (b : KX H1 H2) : KX H H2 := fun p o h n => b p o (a p o h n) n
theorem KX.rd {H H' : Hp} {a : Addr} {u : HO} (e : KX H H') (h : Rd H a u) (hn : ∀ φ, u ≠ .ext φ) : Rd H' a u := by
  rcases h with h | ⟨o, h⟩
  · exact .inl (e a u h hn)
  · exact .inr ⟨o, e a _ h fun φ z => nomatch z⟩
theorem KX.kl {H H' : Hp} (e : KX H H') : KL H H' := ⟨fun a xs h => e.rd h (fun _ z => nomatch z), fun a xs h => e.rd h (fun _ z => nomatch z)⟩
theorem BkN.kx {H H' : Hp} {v : V} {B : List (List Int)} (h : BkN H v B) (e : KX H H') : BkN H' v B := by
  obtain ⟨a, xs, rfl, h1, h2, h3⟩ := h
  refine ⟨a, xs, rfl, e.rd h1 (fun _ z => nomatch z), h2, fun i s hs => ?_⟩
  obtain ⟨p, h4, o, h5, h6⟩ := h3 i s hs
  exact ⟨p, h4, o, e _ _ h5 (fun _ z => nomatch z), h6⟩
theorem StepN.kx {d : Addr} {H H2 : Hp} (s : StepN d H H2) : KX H H2 := by
  obtain ⟨H1, φ, ψ, e1, h1, rfl⟩ := s
  intro a o h n
  have h2 := e1 _ _ h
  rw [upd_ne (fun e => by rw [e, h1] at h2; cases h2; exact n _ rfl)]
  exact h2
theorem StepN.at {d a : Addr} {H H2 : Hp} {o : HO} (s : StepN d H H2) (hne : a ≠ d) (h : H a = some o) : H2 a = some o := by
  obtain ⟨H1, φ, ψ, e1, h1, rfl⟩ := s
  rw [upd_ne hne]; exact e1 _ _ h
theorem DN.step {P : Program} {w : World} {K : PySem.W.Frag} {H H2 : Hp} {d e : Addr} {kvs : List (NestedKey × V)} (h : DN P w K H d kvs) (s : StepN e H H2) (hne : d ≠ e) : DN P w K H2 d kvs := h.tk s.kx.kl.t (by
  obtain ⟨φ, hd⟩ := h.some
  rw [hd]; exact s.at hne hd)
/-- .. but those that are meant -/
def KB (I : Addr → Prop) (H H' : Hp) : Prop := KX H H' ∧ ∀ a o, H a = some o → ¬ I a → H' a = some o
theorem KB.of_ex {I : Addr → Prop} {H H' : Hp} (e : Ex H H') : KB I H H' := ⟨KX.of_ex e, fun a o h _ => e a o h⟩
theorem KB.trans {I : Addr → Prop} {H H1 H2 : Hp} (a : KB I H H1) (b : KB I H1 H2) : KB I H H2 := ⟨a.1.trans b.1, fun p o h n => b.2 p o (a.2 p o h n) n⟩
theorem KB.step {I : Addr → Prop} {H H2 : Hp} {e : Addr} (s : StepN e H H2) (he : I e) : KB I H H2 := ⟨s.kx, fun a o h n => s.at (fun z => n (z ▸ he)) h⟩
/-- what fits, while it is made: S says what is held so far -/
structure FB (P : Program) (w : World) (K : PySem.W.Frag) (C : Addr) (H : Hp) (x : Addr) (B : List (List Int)) (R : List (List (List Int))) (I : Addr → Prop) (d : Addr) (kvs : List (NestedKey × V)) (S : Nat → Nat → Nat → Nat → Bool) : Prop where
  obj : ∃ dx vb vd ve, H x = some (.ins C dx [("book", vb), ("data", vd), ("beside", ve), ("near", .ref d)]) ∧ BkN H vb B ∧ Dp K H vd (dataD R) ∧ Dp K H ve (besideD B)
  near : DN P w K H d kvs
  inn : ∀ i a, (net B R).row i a → ∃ e kv2, valV kvs (rowK i a) = some (.ref e) ∧ I e ∧ DN P w K H e kv2 ∧ InnOk B R (S i a) kv2
  inj : ∀ i a i' a' e, (net B R).row i a → (net B R).row i' a' → valV kvs (rowK i a) = some (.ref e) → valV kvs (rowK i' a') = some (.ref e) → i = i' ∧ a = a'
  ne : ∀ i a, (net B R).row i a → valV kvs (rowK i a) ≠ some (.ref d)
section
variable {P : Program} {w : World} {K : PySem.W.Frag} {C : Addr} {H H' H2 : Hp} {x d e : Addr} {B : List (List Int)} {R : List (List (List Int))} {I : Addr → Prop} {kvs kv2 : List (NestedKey × V)} {S S' : Nat → Nat → Nat → Nat → Bool}
theorem FB.ex (h : FB P w K C H x B R I d kvs S) (e : Ex H H') : FB P w K C H' x B R I d kvs S := by
  obtain ⟨⟨dx, vb, vd, ve, h1, h2, h3, h4⟩, h5, h6, h7, h8⟩ := h
  exact ⟨⟨dx, vb, vd, ve, e _ _ h1, h2.ex e, h3.ex e, h4.ex e⟩, h5.ex e, fun i a hr => let ⟨e1, k2, g1, g2, g3, g4⟩ := h6 i a hr; ⟨e1, k2, g1, g2, g3.ex e, g4⟩, h7, h8⟩
theorem FB.cast (h : FB P w K C H x B R I d kvs S) (hs : ∀ i a, (net B R).row i a → ∀ j b, S i a j b = S' i a j b) : FB P w K C H x B R I d kvs S' :=
  ⟨h.obj, h.near, fun i a hr => let ⟨e1, k2, g1, g2, g3, g4, g5⟩ := h.inn i a hr; ⟨e1, k2, g1, g2, g3, fun j b => by rw [g4, hs i a hr], g5⟩, h.inj, h.ne⟩
/-- an inner dict is written -/
theorem FB.write (h : FB P w K C H x B R I d kvs S) {i a : Nat} (hr : (net B R).row i a) (he : valV kvs (rowK i a) = some (.ref e)) (s : StepN e H H2) (hd : DN P w K H2 e kv2) {S2 : Nat → Nat → Bool} (hi : InnOk B R S2 kv2) :
    FB P w K C H2 x B R I d kvs (fun i' a' j b => if i' = i ∧ a' = a then S2 j b else S i' a' j b) := by
  obtain ⟨⟨dx, vb, vd, ve, h1, h2, h3, h4⟩, h5, h6, h7, h8⟩ := h
  have kx := s.kx
  refine ⟨⟨dx, vb, vd, ve, kx _ _ h1 (fun _ z => nomatch z), h2.kx kx, dp_kl kx.kl _ _ h3, dp_kl kx.kl _ _ h4⟩, h5.step s (fun z => h8 i a hr (by rw [he, z])), fun i' a' hr' => ?_, h7, h8⟩
  obtain ⟨e1, k2, g1, g2, g3, g4⟩ := h6 i' a' hr'
  by_cases q : i' = i ∧ a' = a
  · obtain ⟨rfl, rfl⟩ := q
    rw [he] at g1; cases g1
    exact ⟨e, kv2, he, g2, hd, by simpa using hi⟩
  · refine ⟨e1, k2, g1, g2, g3.step s (fun z => q ?_), ?_⟩
    · subst z
      exact h7 i' a' i a _ hr' hr g1 he
    · have : (fun j b => if i' = i ∧ a' = a then S2 j b else S i' a' j b) = S i' a' := by
        funext j b; rw [if_neg q]
      show InnOk B R (fun j b => if i' = i ∧ a' = a then S2 j b else S i' a' j b) k2
      rw [this]; exact g4
theorem FB.done (h : FB P w K C H x B R I d kvs (nearRB B R)) : FitsObj P w K C H x B R := by
  obtain ⟨⟨dx, vb, vd, ve, h1, h2, h3, h4⟩, h5, h6, h7, h8⟩ := h
  exact ⟨dx, vb, vd, ve, d, kvs, h1, h2, h3, h4, h5, fun i a hr => let ⟨e1, k2, g1, g2, g3, g4⟩ := h6 i a hr; ⟨e1, k2, g1, g3, g4⟩⟩
end
/-- all rows -/
def rowsL (R : List (List (List Int))) : List (Nat × Nat) := R.zipIdx.flatMap fun p => ((List.range p.1.length).filter fun _ => true).map fun t => (p.2, t)
theorem rowsL_mem {R : List (List (List Int))} {i a : Nat} : (i, a) ∈ rowsL R ↔ i < R.length ∧ a < (R.getD i []).length := by
  unfold rowsL
  rw [List.mem_flatMap]
  constructor
  · rintro ⟨⟨rs, j⟩, h1, h2⟩
    obtain ⟨t, h3, h4⟩ := List.mem_map.mp h2
    cases h4
    rw [List.mem_zipIdx_iff_getElem?] at h1
    have h5 := List.mem_range.mp (List.mem_filter.mp h3).1
    have h6 := (List.getElem?_eq_some_iff.mp h1).1
    refine ⟨h6, ?_⟩
    rw [List.getD_eq_getElem?_getD]
    simp only at h1 h5 ⊢
    rw [h1]; exact h5
  · rintro ⟨h1, h2⟩
    refine ⟨(R.getD i [], i), List.mem_zipIdx_iff_getElem?.mpr (getD_of h1), List.mem_map.mpr ⟨a, List.mem_filter.mpr ⟨List.mem_range.mpr h2, rfl⟩, rfl⟩⟩
theorem flat_le {α β : Type} (f : α → List β) (c : Nat) : ∀ l : List α, (∀ a ∈ l, (f a).length ≤ c) → (l.flatMap f).length ≤ c * l.length
  | [], _ => by simp
  | x :: l, h => by
    rw [List.flatMap_cons, List.length_append, List.length_cons]
    have h1 := h x List.mem_cons_self
    have h2 := flat_le f c l fun a ha => h a (List.mem_cons_of_mem _ ha)
    rw [Nat.mul_succ]
    omega
theorem rowsL_len {R : List (List (List Int))} (hl : R.length ≤ 4) (hf : ∀ rs ∈ R, rs.length ≤ 3) : (rowsL R).length ≤ 12 := by
  have := flat_le (fun p : List (List Int) × Nat => ((List.range p.1.length).filter fun _ => true).map fun t => (p.2, t)) 3 R.zipIdx fun p hp => by
    rw [List.length_map]
    refine Nat.le_trans (List.length_filter_le _ _) ?_
    rw [List.length_range]
    have : R[p.2]? = some p.1 := by
      have := List.mem_zipIdx_iff_getElem?.mp (show (p.1, p.2) ∈ R.zipIdx from hp)
      exact this
    exact hf _ (List.mem_of_getElem? this)
  rw [List.length_zipIdx] at this
  exact Nat.le_trans this (by omega)
def RowsSp (K : PySem.W.Frag) (C : Addr) : Sp := fun vs H Q _ => ∃ (x dx : Addr) (fs : List (Str × V)) (vd : V) (R : List (List (List Int))), vs = [.ref x] ∧ H x = some (.ins C dx fs) ∧ fs.lookup (Str.ofString "data") = some vd ∧ Dp K H vd (dataD R) ∧ R.length ≤ 4 ∧ (∀ rs ∈ R, rs.length ≤ 3) ∧
  ∀ l xs H', Ex H H' → H l = none → H' l = some (.lst xs) → DpAll K H' xs ((rowsL R).map rowP) → Q (.ref l) H'
section
variable {P : Program} {w : World} {K : PySem.W.Frag} {mg : Str → Option Value} {base : Heap}
theorem sc_Fits_rows : FnScope ["self", "source", "rows", "tag"] ["self"] (defScope st_Fits_rows) := ⟨rfl, rfl, rfl, by decide +kernel, rfl, by decide +kernel, by decide +kernel⟩
theorem ok_Fits_rows (T : Txt K mg) : FnOk P w K mg base CX0 1 T.m_rows_f T.m_rows_fd ["self"] (RowsSp K T.FC) := by
  refine T.m_rows_F.ok sc_Fits_rows ?len (fun cdv A outer s H vs Q E hr h => ?_)
  case len =>
    rintro vs H Q E ⟨x, dx, fs, vd, R, rfl, _⟩
    rfl
  obtain ⟨x, dx, fs, vd, R, rfl, hx, hl, hd, hR, hf, k⟩ := h
  refine ⟨_, (pss_one (ps_ret (pe_lc2 (own := [("source", 1), ("rows", 2), ("tag", 3)]) (vs1 := [3]) rfl sc_Fits_rows.nd (piEK (K := K) (by rfl) T.b_enumerate (pa_cons (fldK (K := K) (pv 0) rfl) pa_nil)) (blkOk_by (own := [("source", 1), ("rows", 2), ("tag", 3)]) (N := ["self", "source", "rows", "tag"]) (sc := defScope st_Fits_rows) (by decide +kernel)) (by decide) (fun _ _ _ _ _ => (pgTK (K := K) (n := 2) rfl (pgs_cons (pg_name (i := 1) sc_Fits_rows.nd rfl (by first | exact Or.inl rfl | exact Or.inr rfl)) (pgs_cons (pg_name (i := 2) sc_Fits_rows.nd rfl (by first | exact Or.inl rfl | exact Or.inr rfl)) pgs_nil)))) (fun _ _ _ _ _ => pts_nil) (fun _ _ _ _ _ => (pi_range1 (by rfl) T.b_range (pa_cons (pe_callB (lenK (K := K)) (by rfl) T.b_len (by decide +kernel) (pa_cons (pv 2) pa_nil)) pa_nil))) (fun _ _ _ _ _ => (pg_name (i := 3) sc_Fits_rows.nd rfl (by first | exact Or.inl rfl | exact Or.inr rfl))) (fun _ _ _ _ _ => pts_nil) (fun _ _ _ _ _ => (pe_tup (pa_cons (pv 1) (pa_cons (pv 3) pa_nil))))))), ?_⟩
  have hlen := rowsL_len hR hf
  have hel := el_lc2 (K := K) (σ := [some (.ref x), none, none, none]) (H := H) (te := tTup (tCons (tVar 1) (tCons (tVar 3) tNil))) (t := tYes) (wi := iEnumT K (tCons (tFld K (tVar 0) "data") tNil)) (wi1 := iRng1 (tCons (tCB (rLen K) (tCons (tVar 2) tNil)) tNil)) (g := gTup K 2 (gCons (gName 1) (gCons (gName 2) gNil))) (vs := [1, 2, 3]) (vs1 := [3]) (j1 := 3)
    (xs := R.zipIdx) (enc := fun p => .tuple [nD p.2, rowsD p.1]) (ys := fun p => List.range p.1.length) (enc1 := fun _ => nD) (f := fun _ _ => true) (w := fun p t => rowD p.2 t)
    (fun H1 e1 => ei_enum (α := List (List Int)) (enc := rowsD) (ds := R) (eds_cons (ed_fld rfl (e1 _ _ hx) T.clF T.na_data hl (hd.ex e1)) eds_nil)) ?_ (fun _ _ _ _ _ => rfl) (fun p y H1 hp e1 py => ?_)
  · refine hel H (Ex.refl _) _ fun l xs H2 hl e2 h2 d2 => k l xs H2 e2 hl h2 ?_
    have : (rowsL R).map rowP = R.zipIdx.flatMap fun p => ((List.range p.1.length).filter fun _ => true).map fun t => rowD p.2 t := by
      unfold rowsL
      rw [List.map_flatMap]
      refine congrArg (fun f => R.zipIdx.flatMap f) (funext fun p => ?_)
      rw [List.map_map]; rfl
    rw [this]; exact d2
  · have : (R.zipIdx.flatMap fun p => ((List.range p.1.length).filter fun _ => true).map fun t => rowD p.2 t).length = (rowsL R).length := by
      unfold rowsL
      rw [List.length_flatMap, List.length_flatMap]
      simp only [List.length_map]
    rw [this]; omega
  · have hpr : p.1.length ≤ 3 := by
      have : R[p.2]? = some p.1 := List.mem_zipIdx_iff_getElem?.mp (show (p.1, p.2) ∈ R.zipIdx from hp)
      exact hf _ (List.mem_of_getElem? this)
    obtain ⟨q, us, rfl, h1, h2⟩ := dp_tup py
    obtain ⟨u, v, rfl, h3, h4⟩ := dpa2 h2
    refine ⟨[some (.ref x), some u, some v, none], fun Q hQ => ⟨q, _, rfl, h1, rfl, u, _, rfl, v, _, rfl, rfl, hQ⟩, rfl, fun H2 e2 tk => ?_, fun _ => rfl, fun b y H2 hb e2 tk pb => et_yes, fun b y H2 hb e2 tk pb _ => ed_tup (eds_cons (ed_var rfl (dp_tk tk _ _ rfl h3)) (eds_cons (ed_var rfl pb) eds_nil)) (by show 2 ≤ 100000; decide)⟩
    exact ei_rng (n := p.1.length) (eds_cons (ed_lenT (ed_var rfl (dp_tk tk _ _ (stay_tupled _ (tupled_rows p.1)) h4))) eds_nil) (by omega)
/-- hold keeps more of what fits -/
def HoldSp (P : Program) (w : World) (K : PySem.W.Frag) (C : Addr) : Sp := fun vs H Q _ => ∃ x v1 v2 B R I d kvs S i j, vs = [.ref x, v1, v2] ∧ FB P w K C H x B R I d kvs S ∧ DataG B R ∧ Dp K H v1 (nD i) ∧ Dp K H v2 (nD j) ∧ i < B.length ∧ j < B.length ∧
  ∀ H', KB I H H' → FB P w K C H' x B R I d kvs (fun i' a j' b => S i' a j' b || (decide (i' = i) && (decide (j' = j) && (decide (b < (R.getD j []).length) && agreeB B R i a j b)))) → Q .non H'
theorem ed_book_fb {C x d : Addr} {H : Hp} {B : List (List Int)} {R : List (List (List Int))} {I : Addr → Prop} {kvs : List (NestedKey × V)} {S : Nat → Nat → Nat → Nat → Bool} {σ : L2.St} {i : Nat} (h : FB P w K C H x B R I d kvs S) (hs : σ[i]? = some (some (.ref x))) (cl : Cls K C) (na : NoAttr K C "book") : EB (tFld K (tVar i) "book") σ H B := fun H1 e Q q => by
  obtain ⟨⟨dx, vb, vd, ve, h1, h2, h3, h4⟩, _⟩ := h
  exact ⟨_, hs, x, C, dx, _, vb, rfl, e _ _ h1, cl, na, rfl, q vb H1 (Ex.refl _) (h2.ex e)⟩
theorem ed_data_fb {C x d : Addr} {H : Hp} {B : List (List Int)} {R : List (List (List Int))} {I : Addr → Prop} {kvs : List (NestedKey × V)} {S : Nat → Nat → Nat → Nat → Bool} {σ : L2.St} {i : Nat} (h : FB P w K C H x B R I d kvs S) (hs : σ[i]? = some (some (.ref x))) (cl : Cls K C) (na : NoAttr K C "data") : ED K (tFld K (tVar i) "data") σ H (dataD R) := by
  obtain ⟨⟨dx, vb, vd, ve, h1, h2, h3, h4⟩, _⟩ := h
  exact ed_fld hs h1 cl na rfl h3
theorem valV_put_true {kv : List (NestedKey × V)} {B : List (List Int)} {R : List (List (List Int))} {S : Nat → Nat → Bool} {j b : Nat} {v : V} (h : InnOk B R S kv) (hr : (net B R).row j b) : InnOk B R (fun j' b' => S j' b' || (decide (j' = j) && decide (b' = b))) (putK kv (rowK j b) v) := by
  refine ⟨fun j' b' => ?_, fun k hk => ?_⟩
  · rw [putK_is, h.1]
    by_cases q : rowK j' b' = rowK j b
    · obtain ⟨rfl, rfl⟩ := rowK_inj q
      simp
    · have : ¬ (j' = j ∧ b' = b) := fun ⟨e1, e2⟩ => q (by rw [e1, e2])
      rw [decide_eq_false q, Bool.false_or]
      have : (decide (j' = j) && decide (b' = b)) = false := by
        cases hd : (decide (j' = j) && decide (b' = b)) with
        | false => rfl
        | true => simp at hd; exact absurd hd this
      show S j' b' = (S j' b' || (decide (j' = j) && decide (b' = b)))
      rw [this, Bool.or_false]
  · rw [keys_iff, putK_is, Bool.or_eq_true] at hk
    rcases hk with q | q
    · exact ⟨j, b, of_decide_eq_true q, hr⟩
    · exact h.2 k (keys_iff.mpr q)
theorem sc_Fits_hold : FnScope ["self", "i", "j", "columns", "places", "column", "tag", "row", "fitting", "other", "its", "one", "two"] ["self", "i", "j"] (defScope st_Fits_hold) := ⟨rfl, rfl, rfl, by decide +kernel, rfl, by decide +kernel, by decide +kernel⟩
theorem ok_Fits_hold (T : Txt K mg) : FnOk P w K mg base CX0 2 T.m_hold_f T.m_hold_fd ["self", "i", "j"] (HoldSp P w K T.FC) := by
  refine T.m_hold_F.ok sc_Fits_hold ?len (fun cdv A outer s H vs Q E hr h => ?_)
  case len =>
    rintro vs H Q E ⟨x, v1, v2, B, R, I, d, kvs, S, i, j, rfl, _⟩
    rfl
  obtain ⟨x, v1, v2, B, R, I, d, kvs, S, i, j, rfl, hFB, hD, p1, p2, hi, hj, k⟩ := h
  refine ⟨_, (pss_cons (ps_set (i := 3) sc_Fits_hold.nd rfl (by first | exact Or.inl rfl | exact Or.inr rfl) (pe_call (ok_shared_of T) (hr.mono (by decide)) (by rfl) T.d_shared_of.g T.d_shared_of.F.kp T.d_shared_of.b .nil pass0 (pa_cons (fldK (K := K) (pv 0) rfl) (pa_cons (pv 1) (pa_cons (pv 2) pa_nil)))))
      (pss_cons (ps_setLc (i := 4) (own := [("column", 5)]) rfl sc_Fits_hold.nd rfl rfl (sw_true rfl rfl rfl (by decide +kernel)) (piTK (K := K) (pv 3)) (blkOk_by (own := [("column", 5)]) (N := ["self", "i", "j", "columns", "places", "column", "tag", "row", "fitting", "other", "its", "one", "two"]) (sc := defScope st_Fits_hold) (by decide +kernel)) (fun _ _ _ _ _ => (pg_name (i := 5) sc_Fits_hold.nd rfl (by first | exact Or.inl rfl | exact Or.inr rfl))) (fun _ _ _ _ _ => pts_nil) (fun _ _ _ _ _ => (pe_tup (pa_cons (pe_tindex (pe_ix (ixTK (K := K)) (fldK (K := K) (pv 0) rfl) (pv 1) (fun _ _ => rfl)) (pv 5)) (pa_cons (pe_tindex (pe_ix (ixTK (K := K)) (fldK (K := K) (pv 0) rfl) (pv 2) (fun _ _ => rfl)) (pv 5)) pa_nil)))))
      (pss_one (ps_for PassesOwn.never rfl (piEK (K := K) (by rfl) T.b_enumerate (pa_cons (pe_ix (ixTK (K := K)) (fldK (K := K) (pv 0) rfl) (pv 1) (fun _ _ => rfl)) pa_nil)) (pgTK (K := K) (n := 2) rfl (pgs_cons (pg_name (i := 6) sc_Fits_hold.nd rfl (by first | exact Or.inl rfl | exact Or.inr rfl)) (pgs_cons (pg_name (i := 7) sc_Fits_hold.nd rfl (by first | exact Or.inl rfl | exact Or.inr rfl)) pgs_nil)))
      (pss_cons (ps_set (i := 8) sc_Fits_hold.nd rfl (by first | exact Or.inl rfl | exact Or.inr rfl) (getNK (P := P) (w := w) (K := K) (room_n hr) (fldK (K := K) (pv 0) rfl) (pe_tup (pa_cons (pv 1) (pa_cons (pv 6) pa_nil))) (fun _ _ => rfl)))
        (pss_one (ps_for PassesOwn.never rfl (piEK (K := K) (by rfl) T.b_enumerate (pa_cons (pe_ix (ixTK (K := K)) (fldK (K := K) (pv 0) rfl) (pv 2) (fun _ _ => rfl)) pa_nil)) (pgTK (K := K) (n := 2) rfl (pgs_cons (pg_name (i := 9) sc_Fits_hold.nd rfl (by first | exact Or.inl rfl | exact Or.inr rfl)) (pgs_cons (pg_name (i := 10) sc_Fits_hold.nd rfl (by first | exact Or.inl rfl | exact Or.inr rfl)) pgs_nil)))
        (pss_one (ps_if (pt_val (pe_callB (allK (K := K) rfl) (by rfl) T.b_all (by decide +kernel) (pa_cons (pe_lc (own := [("one", 11), ("two", 12)]) rfl sc_Fits_hold.nd (piLK (K := K) (pv 4)) (blkOk_by (own := [("one", 11), ("two", 12)]) (N := ["self", "i", "j", "columns", "places", "column", "tag", "row", "fitting", "other", "its", "one", "two"]) (sc := defScope st_Fits_hold) (by decide +kernel)) (fun _ _ _ _ _ => (pgTK (K := K) (n := 2) rfl (pgs_cons (pg_name (i := 11) sc_Fits_hold.nd rfl (by first | exact Or.inl rfl | exact Or.inr rfl)) (pgs_cons (pg_name (i := 12) sc_Fits_hold.nd rfl (by first | exact Or.inl rfl | exact Or.inr rfl)) pgs_nil)))) (fun _ _ _ _ _ => pts_nil) (fun _ _ _ _ _ => (pe_cmpR op_eq (pe_ix (ixTK (K := K)) (pv 7) (pv 11) (fun _ _ => rfl)) (pe_ix (ixTK (K := K)) (pv 10) (pv 12) (fun _ _ => rfl)) (nomark _)))) pa_nil)))
          (pss_one (putNK (P := P) (w := w) (K := K) (room_n hr) (pv 8) (pe_tup (pa_cons (pv 2) (pa_cons (pv 9) pa_nil))) pe_bl rfl))
          pss_nil))))))))), ?_⟩
  have hsm := hD.small
  have hiR : i < R.length := by rw [hD.len]; exact hi
  have hjR : j < R.length := by rw [hD.len]; exact hj
  have hcl : (commonI B i j).length ≤ 8 := by
    have h1 : (commonI B i j).length ≤ (B.getD i []).length := List.length_filter_le _ _
    have := schB_len (hD.book.2.2 _ (getD_mem hi))
    omega
  refine q_asgD (ed_call (eds_cons (ed_book_fb hFB rfl T.clF T.na_book).ed (eds_cons (ed_var rfl p1) (eds_cons (ed_var rfl p2) eds_nil))) ⟨B, i, j, rfl, hD.book, hi, hj, rfl⟩) fun vc H1 e1 pc => ?_
  let eP : Int → PyData := fun c => .tuple [nD (idxI c (B.getD i [])), nD (idxI c (B.getD j []))]
  refine q_asgD (ed_lcY (xs := commonI B i j) (enc := PyData.int) (w := eP) (fun H2 e2 => ei_tup (ed_var rfl (pc.ex e2))) (by omega) (fun _ _ => rfl) (fun _ => rfl)
    (fun c y H2 hc e2 py => ed_tup (eds_cons (ed_tix (ed_book_fb (hFB.ex (e1.trans e2)) rfl T.clF T.na_book) (ed_var rfl (p1.ex (e1.trans e2))) (getD_of hi) (ed_var rfl py) (commonI_mem.mp hc).1) (eds_cons (ed_tix (ed_book_fb (hFB.ex (e1.trans e2)) rfl T.clF T.na_book) (ed_var rfl (p2.ex (e1.trans e2))) (getD_of hj) (ed_var rfl py) (commonI_mem.mp hc).2) eds_nil)) (by show 2 ≤ 100000; decide))) fun vp H2 e2 pp => ?_
  have e12 := e1.trans e2
  let Sm : Nat → Nat → Nat → Nat → Nat → Bool := fun m i' a j' b => S i' a j' b || (decide (i' = i) && (decide (a < m) && (decide (j' = j) && (decide (b < (R.getD j []).length) && agreeB B R i a j b))))
  refine s_forD (ei_enumK (α := List Int) (enc := schD) (ds := R.getD i []) (eds_cons (ed_op (ed_data_fb (hFB.ex e12) rfl T.clF T.na_data) (ed_var rfl (p1.ex e12)) (rd_ixT (dget hiR))) eds_nil) (stayAll_map fun s _ => stay_sch s))
    (fun H3 m σ' H' => TK H3 H' ∧ KB I H H' ∧ KX H2 H' ∧ FB P w K T.FC H' x B R I d kvs (Sm m) ∧ ∃ o5 o6 o7 o8 o9 o10 o11 o12 : Option V, σ' = [some (.ref x), some v1, some v2, some vc, some vp, o5, o6, o7, o8, o9, o10, o11, o12])
    (fun H3 e3 => ⟨fun _ _ h => h, KB.of_ex (e12.trans e3), KX.of_ex e3, (hFB.ex (e12.trans e3)).cast (fun i' a _ j' b => by show _ = (S i' a j' b || (decide (i' = i) && (decide (a < 0) && _))); simp), _, _, _, _, _, _, _, _, rfl⟩) (fun H3 m σ' H' _ h => h.1) ?_ ?_
  · rintro H3 m dd y σ' H4 H5 e3 hdd ⟨tk, kb, kx, hfb, o5, o6, o7, o8, o9, o10, o11, o12, rfl⟩ e45 py
    obtain ⟨row, hrow, rfl⟩ := enD_at hdd
    refine eg_pair py fun ut ur put pur => ?_
    have hml : m < (R.getD i []).length := (List.getElem?_eq_some_iff.mp hrow).1
    have hnr : (net B R).row i m := ⟨hi, hml⟩
    have hrl : row.length = (B.getD i []).length := by
      have := hD.rowlen (i := i) (k := m) hml
      rw [List.getD_eq_getElem?_getD, hrow] at this
      exact this
    have hfb5 := hfb.ex e45
    have kx5 : KX H2 H5 := kx.trans (KX.of_ex e45)
    have kb5 : KB I H H5 := kb.trans (KB.of_ex e45)
    obtain ⟨ei, kv2, g1, g2, g3, g4⟩ := hfb5.inn i m hnr
    obtain ⟨⟨dx, vb, vd, ve, b1, b2, b3, b4⟩, b5, _, _, _⟩ := id hfb5
    -- fitting = self.near[i, tag]
    show tSeq _ _ _ [some (.ref x), some v1, some v2, some vc, some vp, o5, some ut, some ur, o8, o9, o10, o11, o12] H5
    refine ⟨_, rfl, x, T.FC, dx, _, _, rfl, b1, T.clF, T.na_near, rfl, ?_⟩
    have p1' : Dp K H5 v1 (nD i) := by cases dp_int p1; exact .int _
    refine ed_tup (K := K) (σ := [some (.ref x), some v1, some v2, some vc, some vp, o5, some ut, some ur, o8, o9, o10, o11, o12]) (eds_cons (ed_var (i := 1) rfl p1') (eds_cons (ed_var (i := 6) rfl put) eds_nil)) (by show 2 ≤ 100000; decide) H5 (Ex.refl _) _ fun yk H6 e6 pk => ?_
    refine ⟨d, kvs, rowK i m, .ref ei, rfl, b5.ex e6, rowK_key i m, pk, g1, ?_⟩
    have hfb6 := hfb5.ex e6
    let Smq : Nat → Nat → Nat → Nat → Nat → Bool := fun q i' a j' b => Sm m i' a j' b || (decide (i' = i) && (decide (a = m) && (decide (j' = j) && (decide (b < q) && agreeB B R i m j b))))
    refine s_forD (ei_enumK (α := List Int) (enc := schD) (ds := R.getD j []) (eds_cons (ed_op (ed_data_fb hfb6 rfl T.clF T.na_data) (ed_var rfl (show Dp K H6 v2 (nD j) by cases dp_int p2; exact .int _)) (rd_ixT (dget hjR))) eds_nil) (stayAll_map fun s _ => stay_sch s))
      (fun H7 q σ' H' => TK H7 H' ∧ KB I H H' ∧ KX H2 H' ∧ TK H5 H' ∧ FB P w K T.FC H' x B R I d kvs (Smq q) ∧ ∃ o5 o9 o10 o11 o12 : Option V, σ' = [some (.ref x), some v1, some v2, some vc, some vp, o5, some ut, some ur, some (.ref ei), o9, o10, o11, o12])
      (fun H7 e7 => ⟨fun _ _ h => h, kb5.trans (KB.of_ex (e6.trans e7)), kx5.trans (KX.of_ex (e6.trans e7)), TK.of_ex (e6.trans e7), (hfb6.ex e7).cast (fun i' a _ j' b => by show _ = (Sm m i' a j' b || (decide (i' = i) && (decide (a = m) && (decide (j' = j) && (decide (b < 0) && _))))); simp), _, _, _, _, _, rfl⟩) (fun H7 q σ' H' _ h => h.1) ?_ ?_
    · rintro H7 q dd2 y2 σ' H8 H9 e7 hdd2 ⟨tk8, kb8, kx8, tk58, hfb8, o5, o9, o10, o11, o12, rfl⟩ e89 py2
      obtain ⟨its, hits, rfl⟩ := enD_at hdd2
      refine eg_pair py2 fun uo ui puo pui => ?_
      show tIfS _ _ _ _ [some (.ref x), some v1, some v2, some vc, some vp, o5, some ut, some ur, some (.ref ei), some uo, some ui, o11, o12] H9
      have hql : q < (R.getD j []).length := (List.getElem?_eq_some_iff.mp hits).1
      have hnq : (net B R).row j q := ⟨hj, hql⟩
      have hil : its.length = (B.getD j []).length := by
        have := hD.rowlen (i := j) (k := q) hql
        rw [List.getD_eq_getElem?_getD, hits] at this
        exact this
      have kx9 : KX H2 H9 := kx8.trans (KX.of_ex e89)
      have pp9 := dp_kl kx9.kl _ _ pp
      have pur9 : Dp K H9 ur (schD row) := dp_tk (tk58.trans (TK.of_ex e89)) _ _ (stay_sch row) pur
      have hw1 : ∀ c, worthN B R i m c = row.getD (idxI c (B.getD i [])) 0 := fun c => by
        unfold worthN
        rw [List.getD_eq_getElem?_getD (l := R.getD i []), hrow]; rfl
      have hw2 : ∀ c, worthN B R j q c = its.getD (idxI c (B.getD j [])) 0 := fun c => by
        unfold worthN
        rw [List.getD_eq_getElem?_getD (l := R.getD j []), hits]; rfl
      refine s_ifD (x := agreeB B R i m j q) (et_B (ed_all (xs := commonI B i j) (p := fun c => decide (worthN B R i m c = worthN B R j q c)) (ed_lcpY (xs := commonI B i j) (e1 := fun c => nD (idxI c (B.getD i []))) (e2 := fun c => nD (idxI c (B.getD j []))) (w := fun c => .bool (decide (worthN B R i m c = worthN B R j q c))) (fun HA eA => ei_lst (ed_var rfl (pp9.ex eA))) (by omega) (fun _ _ => rfl) (fun _ _ => rfl)
        (fun c u1 u2 HA hc eA pu1 pu2 => ?_)))) (fun hag HA eA => ?_) (fun hag HA eA => ?_)
      · rw [hw1, hw2]
        have hc1 := idxI_lt (commonI_mem.mp hc).1
        have hc2 := idxI_lt (commonI_mem.mp hc).2
        exact ed_op (ed_op (ed_var rfl (pur9.ex eA)) (ed_var rfl pu1) (rd_ixT (d := .int (row.getD (idxI c (B.getD i [])) 0)) (by rw [List.getElem?_map, getD_of (d := 0) (by omega)]; rfl))) (ed_op (ed_var rfl (pui.ex eA)) (ed_var rfl pu2) (rd_ixT (d := .int (its.getD (idxI c (B.getD j [])) 0)) (by rw [List.getElem?_map, getD_of (d := 0) (by omega)]; rfl))) rd_eqI
      · have hfbA := (hfb8.ex e89).ex eA
        obtain ⟨e', kvA, a1, a2, a3, a4⟩ := hfbA.inn i m hnr
        rw [g1] at a1; cases a1
        have hrkA : RowKeys B R kvA := a4.2
        have hlA := hrkA.len hD a3.nodup
        refine ⟨_, rfl, ?_⟩
        refine ed_tup (K := K) (σ := [some (.ref x), some v1, some v2, some vc, some vp, o5, some ut, some ur, some (.ref ei), some uo, some ui, o11, o12]) (eds_cons (ed_var (i := 2) rfl (show Dp K HA v2 (nD j) by cases dp_int p2; exact .int _)) (eds_cons (ed_var (i := 9) rfl (puo.ex eA)) eds_nil)) (by show 2 ≤ 100000; decide) HA (Ex.refl _) _ fun yk H10 e10 pk => ?_
        refine ⟨ei, kvA, rowK j q, rfl, a3.ex e10, rowK_key j q, pk, by omega, fun H11 st11 dn11 => ?_⟩
        refine ⟨(tk8.trans (TK.of_ex ((e89.trans eA).trans e10))).trans st11.kx.kl.t, (kb8.trans (KB.of_ex ((e89.trans eA).trans e10))).trans (KB.step st11 g2), (kx8.trans (KX.of_ex ((e89.trans eA).trans e10))).trans st11.kx, (tk58.trans (TK.of_ex ((e89.trans eA).trans e10))).trans st11.kx.kl.t, ?_, _, _, _, _, _, rfl⟩
        refine ((hfbA.ex e10).write hnr g1 st11 dn11 (valV_put_true a4 hnq)).cast fun i' a hr' j' b => ?_
        show (if i' = i ∧ a = m then (Smq q i m j' b || (decide (j' = j) && decide (b = q))) else Smq q i' a j' b) = Smq (q + 1) i' a j' b
        by_cases hq : i' = i ∧ a = m
        · rw [if_pos hq, hq.1, hq.2]
          show ((Sm m i m j' b || (decide (i = i) && (decide (m = m) && (decide (j' = j) && (decide (b < q) && agreeB B R i m j b))))) || (decide (j' = j) && decide (b = q))) = (Sm m i m j' b || (decide (i = i) && (decide (m = m) && (decide (j' = j) && (decide (b < q + 1) && agreeB B R i m j b)))))
          by_cases hj' : j' = j
          · by_cases hb : b = q
            · subst hb
              rw [hag]; simp [hj']
            · have : decide (b < q + 1) = decide (b < q) := by rw [decide_eq_decide]; omega
              rw [this, decide_eq_false hb]; simp
          · rw [decide_eq_false hj']; simp
        · rw [if_neg hq]
          have : (decide (i' = i) && decide (a = m)) = false := by
            cases hh : (decide (i' = i) && decide (a = m)) with
            | false => rfl
            | true => simp at hh; exact absurd hh hq
          have g : ∀ z : Bool, (decide (i' = i) && (decide (a = m) && z)) = false := fun z => by rw [← Bool.and_assoc, this]; rfl
          show (Sm m i' a j' b || (decide (i' = i) && (decide (a = m) && _))) = (Sm m i' a j' b || (decide (i' = i) && (decide (a = m) && _)))
          rw [g, g]
      · refine ⟨tk8.trans (TK.of_ex (e89.trans eA)), kb8.trans (KB.of_ex (e89.trans eA)), kx8.trans (KX.of_ex (e89.trans eA)), tk58.trans (TK.of_ex (e89.trans eA)), ((hfb8.ex e89).ex eA).cast fun i' a hr' j' b => ?_, _, _, _, _, _, rfl⟩
        show (Sm m i' a j' b || (decide (i' = i) && (decide (a = m) && (decide (j' = j) && (decide (b < q) && agreeB B R i m j b))))) = (Sm m i' a j' b || (decide (i' = i) && (decide (a = m) && (decide (j' = j) && (decide (b < q + 1) && agreeB B R i m j b)))))
        by_cases hb : b = q
        · subst hb; rw [hag]; simp
        · have : decide (b < q + 1) = decide (b < q) := by rw [decide_eq_decide]; omega
          rw [this]
    · rintro H7 σ' H8 e7 ⟨tk8, kb8, kx8, tk58, hfb8, o5, o9, o10, o11, o12, rfl⟩
      have hlen : (enD schD (R.getD j [])).length = (R.getD j []).length := by rw [List.length_map, List.length_zipIdx]
      rw [hlen] at hfb8
      refine ⟨(tk.trans (TK.of_ex e45)).trans tk58, kb8, kx8, hfb8.cast fun i' a hr' j' b => ?_, _, _, _, _, _, _, _, _, rfl⟩
      show ((S i' a j' b || (decide (i' = i) && (decide (a < m) && (decide (j' = j) && (decide (b < (R.getD j []).length) && agreeB B R i a j b))))) || (decide (i' = i) && (decide (a = m) && (decide (j' = j) && (decide (b < (R.getD j []).length) && agreeB B R i m j b))))) = (S i' a j' b || (decide (i' = i) && (decide (a < m + 1) && (decide (j' = j) && (decide (b < (R.getD j []).length) && agreeB B R i a j b)))))
      by_cases ha : a = m
      · subst ha; simp
      · have : decide (a < m + 1) = decide (a < m) := by rw [decide_eq_decide]; omega
        rw [this, decide_eq_false ha]; simp
  · rintro H3 σ' H4 e3 ⟨tk, kb, kx, hfb, o5, o6, o7, o8, o9, o10, o11, o12, rfl⟩
    have hlen : (enD schD (R.getD i [])).length = (R.getD i []).length := by rw [List.length_map, List.length_zipIdx]
    rw [hlen] at hfb
    refine k H4 kb (hfb.cast fun i' a hr' j' b => ?_)
    show (S i' a j' b || (decide (i' = i) && (decide (a < (R.getD i []).length) && (decide (j' = j) && (decide (b < (R.getD j []).length) && agreeB B R i a j b))))) = (S i' a j' b || (decide (i' = i) && (decide (j' = j) && (decide (b < (R.getD j []).length) && agreeB B R i a j b))))
    by_cases hii : i' = i
    · subst hii
      have : a < (R.getD i' []).length := hr'.2
      rw [decide_eq_true this, Bool.true_and]
    · rw [decide_eq_false hii]; rfl
end
end BB
/-! D11: what fits, made. -/
namespace BB
open PySem L2 Evl
/-- lists, tuples, known things kept -/
structure KF (H H' : Hp) : Prop where
  l : ∀ a xs, H a = some (.lst xs) → H' a = some (.lst xs)
  t : ∀ a xs, H a = some (.tup xs) → H' a = some (.tup xs)
  f : ∀ a o u, H a = some (.frz o u) → H' a = some (.frz o u)
theorem KF.kl {H H' : Hp} (k : KF H H') : KL H H' := ⟨fun a xs h => h.elim (fun h => .inl (k.l _ _ h)) fun ⟨o, h⟩ => .inr ⟨o, k.f _ _ _ h⟩, fun a xs h => h.elim (fun h => .inl (k.t _ _ h)) fun ⟨o, h⟩ => .inr ⟨o, k.f _ _ _ h⟩⟩
theorem BkN.kf {H H' : Hp} {v : V} {B : List (List Int)} (h : BkN H v B) (k : KF H H') : BkN H' v B := by
  obtain ⟨a, xs, rfl, h1, h2, h3⟩ := h
  refine ⟨a, xs, rfl, k.kl.t _ _ h1, h2, fun i s hs => ?_⟩
  obtain ⟨p, h4, o, h5, h6⟩ := h3 i s hs
  exact ⟨p, h4, o, k.f _ _ _ h5, h6⟩
/-- all but the instance at x kept -/
structure E0x (x : Addr) (H0 H' : Hp) : Prop where
  ins : ∃ C dx fs, H0 x = some (.ins C dx fs)
  kept : ∀ a o, a ≠ x → H0 a = some o → H' a = some o
theorem E0x.kf {x : Addr} {H0 H' : Hp} (e : E0x x H0 H') : KF H0 H' := by
  obtain ⟨C, dx, fs, hx⟩ := e.ins
  exact ⟨fun a xs h => e.kept a _ (fun z => by rw [z, hx] at h; cases h) h, fun a xs h => e.kept a _ (fun z => by rw [z, hx] at h; cases h) h, fun a o u h => e.kept a _ (fun z => by rw [z, hx] at h; cases h) h⟩
theorem E0x.ex {x : Addr} {H0 H1 H2 : Hp} (e : E0x x H0 H1) (e2 : Ex H1 H2) : E0x x H0 H2 := ⟨e.ins, fun a o n h => e2 _ _ (e.kept a o n h)⟩
theorem E0x.upd {x : Addr} {H0 H1 : Hp} {o : HO} (e : E0x x H0 H1) : E0x x H0 (upd H1 x o) := ⟨e.ins, fun a o n h => by rw [upd_ne n]; exact e.kept a o n h⟩
section
variable {P : Program} {w : World} {K : PySem.W.Frag} {σ : L2.St} {H : Hp} {te tl : TE} {ds : List PyData} {a : Addr} {n i : Nat}
theorem ei_lstK (h : ED K tl σ H (.list ds)) : EI K (iList K tl) σ H KX ds := fun R k =>
  h H (Ex.refl _) _ fun v H2 e2 p => by
    obtain ⟨pa, xs, rfl, h1, h2⟩ := dp_lst p
    exact ⟨pa, rfl, ⟨xs, h1⟩, k _ H2 e2 (walk_lstD (fun H' g => ⟨h1.imp (fun r => g.kl.l _ _ r) id, dpa_kl g.kl _ _ h2⟩) h2.length)⟩
theorem ei_rngV {GG : Hp → Hp → Prop} (hs : σ[i]? = some (some (.ref a))) (h : H a = some (.rng 0 (n : Int))) (hn : n ≤ 100000) : EI K (iRngV (tVar i)) σ H GG (rgD n) := fun R k => by
  refine ⟨_, hs, a, 0, n, rfl, h, by omega, k _ H (Ex.refl _) ?_⟩
  have : ((n : Int) - 0).toNat = n := by omega
  rw [this]
  refine YD_range ?_
  exact congrArg (fun f => (List.range n).map f) (funext fun i => by rw [Int.zero_add])
theorem q_asgR {D : Ends} {tz : TS} {j : Nat} (h : te σ H fun v H1 => tz D (σ.set j (some v)) H1) : tSeq (tAsg te (gName j)) tz D σ H := h
theorem cb_raw {r : List V → Hp → VK → Prop} {ta : TA} {Q : VK} (h : ta σ H fun vs H1 => r vs H1 Q) : tCB r ta σ H Q := h
/-- a list of lists of ints, made by a comprehension -/
theorem lc_lists {α : Type} {xs : List α} {enc : α → PyData} {f : α → List Nat} {vs : List Nat} {j : Nat} {wi : TI} (hi : EI K wi σ H Ex (xs.map enc)) (hz : xs.length ≤ 40000) (hw : ∀ x, wipe ((wipe σ vs).set j (some x)) vs = wipe σ vs)
    (he : ∀ d x H1, d ∈ xs → Ex H H1 → Dp K H1 x (enc d) → EL K te ((wipe σ vs).set j (some x)) H1 ((f d).map nD)) {Q : VK} (q : ∀ v H2, Ex H H2 → Dp K H2 v (.list (xs.map fun a => .list ((f a).map nD))) → Q v H2) :
    tLc wi (gName j) tYes te vs σ H Q := hi _ fun J H1 e1 wk Dl hD => by
  have hn : (xs.map enc).length = xs.length := List.length_map ..
  rw [hn] at wk
  refine lc_it wk (fun i H' => Ex H1 H' ∧ ∃ acc, H' Dl = some (.lst acc) ∧ acc.length = i ∧ ∀ (k : Nat) a, k < i → xs[k]? = some a → ∃ p, acc[k]? = some (.ref p) ∧ p ≠ Dl ∧ H' p = some (.lst ((f a).map fun (i : Nat) => V.int (i : Int)))) ⟨Ex.new hD, [], upd_same, rfl, fun k a h => absurd h (Nat.not_lt_zero k)⟩ (fun i H' _ p => p.1) ?_ ?_
  · rintro i x H' H'' hi' ⟨eH, acc, h1, h2, h3⟩ ⟨ey, d', hd', px⟩
    obtain ⟨d, hd, rfl⟩ := map_get hd'
    refine ⟨hw x, ?_⟩
    refine et_yes (σ := (wipe σ vs).set j (some x)) (H := H'') H'' (Ex.refl _) _ fun H3 e3 => ?_
    show te ((wipe σ vs).set j (some x)) H3 _
    refine he d x H'' (List.mem_of_getElem? hd) (e1.trans (eH.trans ey)) px H3 e3 _ fun p zs H4 hp e4 h4 d4 => ?_
    have hD4 : H4 Dl = some (.lst acc) := e4 _ _ (e3 _ _ (ey _ _ h1))
    have hpD : p ≠ Dl := fun z => by rw [z] at hp; rw [e3 _ _ (ey _ _ h1)] at hp; cases hp
    have hzs : zs = (f d).map fun (i : Nat) => V.int (i : Int) := by
      rw [nD_map] at d4
      have := dpa_ints d4
      rw [this, List.map_map]; rfl
    refine ⟨acc, hD4, sz_lt (by omega), Ex.mut (eH.trans (ey.trans (e3.trans e4))) hD, acc ++ [.ref p], upd_same, by rw [List.length_append, h2]; rfl, fun k a hk ha => ?_⟩
    by_cases hki : k = i
    · subst hki
      rw [hd] at ha; cases ha
      refine ⟨p, by rw [← h2, List.getElem?_append_right (Nat.le_refl _), Nat.sub_self]; rfl, hpD, ?_⟩
      rw [upd_ne hpD, h4, hzs]
    · obtain ⟨p', g1, g2, g3⟩ := h3 k a (by omega) ha
      refine ⟨p', by rw [List.getElem?_append_left (by omega)]; exact g1, g2, ?_⟩
      rw [upd_ne g2]
      exact e4 _ _ (e3 _ _ (ey _ _ g3))
  · rintro H' ⟨eH, acc, h1, h2, h3⟩
    refine q _ H' (e1.trans eH) (.lst (.inl (.inl h1)) (dpAll_of (by rw [h2, List.length_map]) fun k d hd => ?_))
    obtain ⟨a, ha, rfl⟩ := map_get hd
    obtain ⟨p, g1, g2, g3⟩ := h3 k a (List.getElem?_eq_some_iff.mp ha).1 ha
    refine ⟨_, g1, .lst (.inl (.inl g3)) ?_⟩
    have := ints_dpa (K := K) (H := H') ((f a).map fun (i : Nat) => (i : Int))
    rw [List.map_map, ← nD_map] at this
    exact this
end
theorem rowsL_nodup (R : List (List (List Int))) : (rowsL R).Nodup := by
  have key : ∀ (R : List (List (List Int))) (k : Nat), ((R.zipIdx k).flatMap fun p => ((List.range p.1.length).filter fun _ => true).map fun t => (p.2, t)).Nodup ∧ ∀ p ∈ ((R.zipIdx k).flatMap fun p => ((List.range p.1.length).filter fun _ => true).map fun t => (p.2, t)), k ≤ p.1 := by
    intro R
    induction R with
    | nil => intro k; exact ⟨List.nodup_nil, fun p h => by cases h⟩
    | cons rs R ih =>
      intro k
      obtain ⟨h1, h2⟩ := ih (k + 1)
      rw [List.zipIdx_cons, List.flatMap_cons]
      refine ⟨List.nodup_append.mpr ⟨?_, h1, fun p hp q hq e => ?_⟩, fun p hp => ?_⟩
      · rw [filter_yes]
        exact List.Pairwise.map (fun t => (k, t)) (fun a b h e => h (by cases e; rfl)) List.nodup_range
      · obtain ⟨t, _, rfl⟩ := List.mem_map.mp hp
        have h3 := h2 q hq
        rw [← e] at h3
        have h3 : k + 1 ≤ k := h3
        omega
      · rcases List.mem_append.mp hp with hp | hp
        · obtain ⟨t, _, rfl⟩ := List.mem_map.mp hp
          exact Nat.le_refl _
        · have := h2 p hp
          omega
  exact (key R 0).1
/-- entries: rows and addresses -/
def zipE (rs : List (Nat × Nat)) (es : List Addr) : List (NestedKey × V) := List.zipWith (fun p e => (rowK p.1 p.2, V.ref e)) rs es
theorem zipE_val : ∀ {rs : List (Nat × Nat)} {es : List Addr} {i a : Nat} {v : V}, valV (zipE rs es) (rowK i a) = some v → ∃ (k : Nat) (e : Addr), rs[k]? = some (i, a) ∧ es[k]? = some e ∧ v = .ref e
  | [], _, _, _, _, h => by cases h
  | _ :: _, [], _, _, _, h => by cases h
  | p :: rs, e :: es, i, a, v, h => by
    have h : valV ((rowK p.1 p.2, V.ref e) :: zipE rs es) (rowK i a) = some v := h
    by_cases q : rowK p.1 p.2 = rowK i a
    · rw [valV_pos q] at h
      obtain ⟨e1, e2⟩ := rowK_inj q
      cases h
      exact ⟨0, e, by rw [← e1, ← e2]; rfl, rfl, rfl⟩
    · rw [valV_neg q] at h
      obtain ⟨k, e', h1, h2, h3⟩ := zipE_val h
      exact ⟨k + 1, e', by simpa using h1, by simpa using h2, h3⟩
theorem zipE_has : ∀ {rs : List (Nat × Nat)} {es : List Addr} {i a : Nat}, rs.length = es.length → (i, a) ∈ rs → (valV (zipE rs es) (rowK i a)).isSome = true
  | [], _, _, _, _, h => by cases h
  | _ :: _, [], _, _, h, _ => by simp at h
  | p :: rs, e :: es, i, a, hl, h => by
    show (valV ((rowK p.1 p.2, V.ref e) :: zipE rs es) (rowK i a)).isSome = true
    by_cases q : rowK p.1 p.2 = rowK i a
    · rw [valV_pos q]; rfl
    · rw [valV_neg q]
      rcases List.mem_cons.mp h with e1 | h
      · exact absurd (by rw [← e1]) q
      · exact zipE_has (by simpa using hl) h
theorem zipE_snoc {rs : List (Nat × Nat)} {es : List Addr} {p : Nat × Nat} {e : Addr} (h : rs.length = es.length) : zipE (rs ++ [p]) (es ++ [e]) = zipE rs es ++ [(rowK p.1 p.2, .ref e)] := by
  unfold zipE
  rw [List.zipWith_append h]; rfl
def InitSp (P : Program) (w : World) (K : PySem.W.Frag) (C : Addr) : Sp := fun vs H Q _ => ∃ x dx vb vd B R, vs = [.ref x, vb, vd] ∧ H x = some (.ins C dx []) ∧ BkN H vb B ∧ Dp K H vd (dataD R) ∧ DataG B R ∧
  ∀ H', (∀ a o, a ≠ x → H a = some o → H' a = some o) → FitsObj P w K C H' x B R → Q .non H'
section
variable {P : Program} {w : World} {K : PySem.W.Frag} {mg : Str → Option Value} {base : Heap}
theorem sc_Fits_init : FnScope ["self", "book", "data", "sources", "j", "i", "row"] ["self", "book", "data"] (defScope st_Fits_init) := ⟨rfl, rfl, rfl, by decide +kernel, rfl, by decide +kernel, by decide +kernel⟩
theorem ok_Fits_init (T : Txt K mg) : FnOk P w K mg base CX0 3 T.m_init_f T.m_init_fd ["self", "book", "data"] (InitSp P w K T.FC) := by
  refine T.m_init_F.ok sc_Fits_init ?len (fun cdv A outer s H vs Q E hr h => ?_)
  case len =>
    rintro vs H Q E ⟨x, dx, vb, vd, B, R, rfl, _⟩
    rfl
  obtain ⟨x, dx, vb, vd, B, R, rfl, hx, hb, hd, hD, k⟩ := h
  refine ⟨_, (pss_cons (ps_fld (pv 0) (pv 1) rfl)
      (pss_cons (ps_fld (pv 0) (pv 2) rfl)
      (pss_cons (ps_set (i := 3) sc_Fits_init.nd rfl (by first | exact Or.inl rfl | exact Or.inr rfl) (pe_callTy cr_range1 (by rfl) T.b_range (by decide +kernel) (pa_cons (pe_callB (lenK (K := K)) (by rfl) T.b_len (by decide +kernel) (pa_cons (pv 1) pa_nil)) pa_nil)))
      (pss_cons (ps_fld (pv 0) (pe_lc (own := [("i", 5)]) rfl sc_Fits_init.nd (pi_rngV (pv 3)) (blkOk_by (own := [("i", 5)]) (N := ["self", "book", "data", "sources", "j", "i", "row"]) (sc := defScope st_Fits_init) (by decide +kernel)) (fun _ _ _ _ _ => (pg_name (i := 5) sc_Fits_init.nd rfl (by first | exact Or.inl rfl | exact Or.inr rfl))) (fun _ _ _ _ _ => pts_nil) (fun _ _ _ _ _ => (pe_lc (own := [("j", 4)]) rfl sc_Fits_init.nd (pi_rngV (pv 3)) (blkOk_by (own := [("j", 4)]) (N := ["self", "book", "data", "sources", "j", "i", "row"]) (sc := (relabel _ _)) (by rfl)) (fun _ _ _ _ _ => (pg_name (i := 4) sc_Fits_init.nd rfl (by first | exact Or.inl rfl | exact Or.inr rfl))) (fun _ _ _ _ _ => pts_one (pt_val (pe_call (ok_are_neighbours T) (hr.mono (by decide)) (by rfl) T.d_are_neighbours.g T.d_are_neighbours.F.kp T.d_are_neighbours.b .nil pass0 (pa_cons (pv 1) (pa_cons (pv 5) (pa_cons (pv 4) pa_nil)))))) (fun _ _ _ _ _ => (pv 4))))) rfl)
      (pss_cons (ps_fld (pv 0) (dcNK (P := P) (w := w) (K := K) (own := [("row", 6)]) (room_n hr) rfl sc_Fits_init.nd (piLK (K := K) (pe_meth0 (pv 0) T.clF T.m_rows (ok_Fits_rows T) (hr.mono (by decide)) T.m_rows_b .nil pass0)) (blkOk_by (own := [("row", 6)]) (N := ["self", "book", "data", "sources", "j", "i", "row"]) (sc := defScope st_Fits_init) (by decide +kernel)) (fun _ _ _ _ _ => (pg_name (i := 6) sc_Fits_init.nd rfl (by first | exact Or.inl rfl | exact Or.inr rfl))) (fun _ _ _ _ _ => pts_nil) (fun _ _ _ _ _ => (pv 6)) (fun _ _ _ _ _ => (newNK (P := P) (w := w) (K := K)))) rfl)
      (pss_one (ps_for PassesOwn.never rfl (pi_rngV (pv 3)) (pg_name (i := 5) sc_Fits_init.nd rfl (by first | exact Or.inl rfl | exact Or.inr rfl))
      (pss_one (ps_for PassesOwn.never rfl (piLK (K := K) (pe_ix (ixLK (K := K)) (fldK (K := K) (pv 0) rfl) (pv 5) (fun _ _ => rfl))) (pg_name (i := 4) sc_Fits_init.nd rfl (by first | exact Or.inl rfl | exact Or.inr rfl))
        (pss_one (ps_expr (pe_meth (pv 0) T.clF T.m_hold (ok_Fits_hold T) (hr.mono (by decide)) T.m_hold_b .nil pass0 (pa_cons (pv 5) (pa_cons (pv 4) pa_nil)))))))))))))), ?_⟩
  have hsm := hD.small
  -- self.book = book, self.data = data
  refine ⟨vb, rfl, _, rfl, x, T.FC, dx, _, rfl, hx, T.clF, T.na_book, (by show 0 < 1000; decide), ?_⟩
  refine ⟨vd, rfl, _, rfl, x, T.FC, dx, _, rfl, upd_same, T.clF, T.na_data, (by show 1 < 1000; decide), ?_⟩
  rw [upd_upd]
  generalize hH1 : upd H x (.ins T.FC dx (putF "data" vd (putF "book" vb []))) = H1
  have hx1 : H1 x = some (.ins T.FC dx [("book", vb), ("data", vd)]) := by rw [← hH1, upd_same]; rfl
  have e1 : E0x x H H1 := by rw [← hH1]; exact E0x.upd ⟨⟨_, _, _, hx⟩, fun a o _ h => h⟩
  -- sources = range(len(book))
  have hb1 : BkN H1 vb B := hb.kf e1.kf
  have hst : L2.start ["self", "book", "data", "sources", "j", "i", "row"] [V.ref x, vb, vd] = [some (.ref x), some vb, some vd, none, none, none, none] := rfl
  rw [hst]
  dsimp only
  refine q_asgR (D := { nx := fun x H' => Q V.non H', rt := Q }) (σ := [some (V.ref x), some vb, some vd, none, none, none, none]) (H := H1) (j := 3) ?_
  refine cb_raw ?_
  refine eds_cons (K := K) (ed_lenT (K := K) (ed_var (i := 1) rfl hb1.dp)) eds_nil H1 (Ex.refl _) _ fun vz H2 e12 pvz => ?_
  obtain ⟨z, rfl, pz⟩ := dpa1 pvz
  cases dp_int pz
  refine ⟨(B.length : Int), rfl, fun ps hps => ?_⟩
  generalize hH3 : upd H2 ps (.rng 0 (B.length : Int)) = H3
  have e23 : Ex H2 H3 := by rw [← hH3]; exact Ex.new hps
  have e13 := e12.trans e23
  have hps3 : H3 ps = some (.rng 0 (B.length : Int)) := by rw [← hH3]; exact upd_same
  have hb3 : BkN H3 vb B := hb1.ex e13
  have hx3 := e13 _ _ hx1
  -- self.beside
  show sFld K (tVar 0) _ "beside" _ [some (.ref x), some vb, some vd, some (.ref ps), none, none, none] H3
  refine lc_lists (K := K) (xs := List.range B.length) (enc := nD) (f := besideN B) (ei_rngV (GG := Ex) rfl hps3 (by omega)) (by rw [List.length_range]; omega) (fun _ => rfl) (fun i y H4 hi e4 py => ?_) fun ve H4 e34 pe => ?_
  · have hiB := List.mem_range.mp hi
    exact el_lc (xs := List.range B.length) (enc := nD) (f := fun j => nearB B i j) (w := nD) (fun H5 e5 => ei_rngV rfl (e5 _ _ (e4 _ _ hps3)) (by omega)) (by rw [List.length_range]; omega) (fun _ _ _ => rfl) (fun _ => rfl)
      (fun j z H5 hj e5 pz => et_B (ed_call (eds_cons (ed_var rfl (hb3.ex (e4.trans e5)).dp) (eds_cons (ed_var rfl (py.ex e5)) (eds_cons (ed_var rfl pz) eds_nil))) ⟨B, i, j, rfl, hD.book, hiB, List.mem_range.mp hj, rfl⟩)) (fun j z H5 hj e5 pz _ => ed_var rfl pz)
  refine ⟨_, rfl, x, T.FC, dx, _, rfl, e34 _ _ hx3, T.clF, T.na_beside, (by show 2 < 1000; decide), ?_⟩
  generalize hH5 : upd H4 x (.ins T.FC dx (putF "beside" ve [("book", vb), ("data", vd)])) = H5
  have hx5 : H5 x = some (.ins T.FC dx [("book", vb), ("data", vd), ("beside", ve)]) := by rw [← hH5, upd_same]; rfl
  have e45 : E0x x H4 H5 := by rw [← hH5]; exact E0x.upd ⟨⟨_, _, _, e34 _ _ hx3⟩, fun a o _ h => h⟩
  have e5 : E0x x H H5 := ⟨e1.ins, fun a o n h => e45.kept a o n (e34 _ _ (e13 _ _ (e1.kept a o n h)))⟩
  have hb5 : BkN H5 vb B := hb.kf e5.kf
  have hd5 : Dp K H5 vd (dataD R) := dp_kl e5.kf.kl _ _ hd
  have pe5 : Dp K H5 ve (besideD B) := dp_kl e45.kf.kl _ _ pe
  have hps5 : H5 ps = some (.rng 0 (B.length : Int)) := e45.kept ps _ (fun z => by rw [z, hx3] at hps3; cases hps3) (e34 _ _ hps3)
  -- self.near
  have hRl : R.length ≤ 4 := by rw [hD.len]; exact hsm
  refine ⟨_, rfl, x, dx, _, rfl, hx5, rfl, ?_⟩
  refine ⟨x, dx, _, vd, R, rfl, hx5, rfl, hd5, hRl, hD.few, fun lr xr H6 e56 hlr hlr6 pr => ?_⟩
  refine ⟨lr, rfl, ⟨xr, sq_of hlr6⟩, fun d H7 hd6 hu7 dn7 => ?_⟩
  obtain ⟨φ7, hH7⟩ := hu7
  have hrn := rowsL_nodup R
  have hrlen := rowsL_len hRl hD.few
  have hxl : xr.length = (rowsL R).length := by rw [pr.length, List.length_map]
  refine ⟨fun i m H' => m = (rowsL R).length - i ∧ i ≤ (rowsL R).length ∧ Ex H6 H' ∧ ∃ es : List Addr, es.length = i ∧ DN P w K H' d (zipE ((rowsL R).take i) es) ∧ es.Nodup ∧ ∀ e ∈ es, H6 e = none ∧ e ≠ d ∧ DN P w K H' e [],
    ⟨(rowsL R).length, by simp, Nat.zero_le _, by rw [hH7]; exact Ex.new hd6, [], rfl, dn7, List.nodup_nil, fun e h => by cases h⟩, ?_⟩
  · rintro i m H' ⟨rfl, hile, eH, es, hel, hdn, hnd, hes⟩
    by_cases hlt : i < (rowsL R).length
    · have hq : SqL K H' lr xr := ex_l eH (sq_of hlr6)
      have hix : i < xr.length := by rw [hxl]; exact hlt
      refine .inr ⟨⟨xr, xr[i], hq, List.getElem?_eq_getElem hix⟩, fun H' => Ex H6 H' ∧ ∃ es : List Addr, es.length = i + 1 ∧ DN P w K H' d (zipE ((rowsL R).take (i + 1)) es) ∧ es.Nodup ∧ ∀ e ∈ es, H6 e = none ∧ e ≠ d ∧ DN P w K H' e [], fun H8 p => ⟨(rowsL R).length - (i + 1), by omega, rfl, hlt, p⟩, fun y H8 hy => ?_⟩
      obtain ⟨rfl, hy⟩ := hy
      have hyx := hy xr hq
      obtain ⟨dd, h1, py0⟩ := pr.get hyx
      obtain ⟨p, hp, rfl⟩ := map_get h1
      have py : Dp K H8 y (rowP p) := py0.ex eH
      refine ⟨rfl, ?_⟩
      refine et_yes (σ := [some (.ref x), some vb, some vd, some (.ref ps), none, none, some y]) (H := H8) H8 (Ex.refl _) _ fun H9 e9 => ?_
      show ∃ v, _ ∧ _
      refine ⟨y, rfl, fun e H10 he9 hu10 dn10 => ?_⟩
      obtain ⟨φ10, hH10⟩ := hu10
      have e910 : Ex H9 H10 := by rw [hH10]; exact Ex.new he9
      have e8 : Ex H8 H10 := e9.trans e910
      have hz : (zipE ((rowsL R).take i) es).length ≤ i := by
        unfold zipE
        rw [List.length_zipWith]; omega
      have hTl : ((rowsL R).take i).length = es.length := by rw [List.length_take, hel]; omega
      have hnone : valV (zipE ((rowsL R).take i) es) (rowK p.1 p.2) = none := by
        cases q : valV (zipE ((rowsL R).take i) es) (rowK p.1 p.2) with
        | none => rfl
        | some v =>
          obtain ⟨k', e', g1, g2, g3⟩ := zipE_val q
          exact absurd (List.mem_of_getElem? g1) (nodup_take hrn hp)
      refine ⟨_, rowK p.1 p.2, hdn.ex e8, rowK_key _ _, py.ex e8, by omega, fun H11 st11 dn11 => ?_⟩
      have hdd : (∃ φ, H8 d = some (.ext φ)) := hdn.some
      have hd10 : ∃ φ, H10 d = some (.ext φ) := let ⟨φ, h⟩ := hdd; ⟨φ, e8 _ _ h⟩
      have hed : e ≠ d := fun z => by
        obtain ⟨φ, h⟩ := hdd
        rw [z] at he9
        rw [e9 _ _ h] at he9; cases he9
      have hd6' : H6 d = none := hd6
      refine ⟨?_, es ++ [e], by rw [List.length_append, hel]; rfl, ?_, ?_, fun e' he' => ?_⟩
      · obtain ⟨H12, φ1, ψ1, e12, h12, rfl⟩ := st11
        exact Ex.mut ((eH.trans e8).trans e12) hd6'
      · rw [take_succ_of hp, zipE_snoc hTl, ← putK_new _ hnone]
        exact dn11
      · refine List.nodup_append.mpr ⟨hnd, by simp, fun a ha b hb z => ?_⟩
        rw [List.mem_singleton.mp hb] at z
        obtain ⟨_, _, h3⟩ := hes a ha
        obtain ⟨φ, h4⟩ := h3.some
        rw [z] at h4
        rw [e9 _ _ h4] at he9; cases he9
      · rcases List.mem_append.mp he' with h | h
        · obtain ⟨g1, g2, g3⟩ := hes e' h
          exact ⟨g1, g2, (g3.ex e8).step st11 g2⟩
        · rw [List.mem_singleton.mp h]
          refine ⟨fresh_back (eH.trans e9) he9, hed, dn10.step st11 hed⟩
    · have hie : i = (rowsL R).length := by omega
      subst hie
      rw [List.take_length] at hdn
      refine .inl ⟨⟨xr, ex_l eH (sq_of hlr6), by rw [hxl]; exact Nat.le_refl _⟩, ?_⟩
      have hx6 := eH _ _ (e56 _ _ hx5)
      refine ⟨_, rfl, x, T.FC, dx, _, rfl, hx6, T.clF, T.na_near, (by show 3 < 1000; decide), ?_⟩
      generalize hH8 : upd H' x (.ins T.FC dx (putF "near" (.ref d) [("book", vb), ("data", vd), ("beside", ve)])) = H8
      have hx8 : H8 x = some (.ins T.FC dx [("book", vb), ("data", vd), ("beside", ve), ("near", .ref d)]) := by rw [← hH8, upd_same]; rfl
      have e78 : E0x x H' H8 := by rw [← hH8]; exact E0x.upd ⟨⟨_, _, _, hx6⟩, fun a o _ h => h⟩
      have e58 : E0x x H5 H8 := ⟨⟨_, _, _, hx5⟩, fun a o n h => e78.kept a o n (eH _ _ (e56 _ _ h))⟩
      have e8 : E0x x H H8 := ⟨e5.ins, fun a o n h => e58.kept a o n (e5.kept a o n h)⟩
      have dnx : ∀ {e : Addr} {kv : List (NestedKey × V)}, DN P w K H' e kv → DN P w K H8 e kv := fun {e kv} h => h.tk e78.kf.kl.t (by
        obtain ⟨φ, he⟩ := h.some
        rw [he]
        exact e78.kept e _ (fun z => by rw [z, hx6] at he; cases he) he)
      have hmem : ∀ {i a : Nat}, (net B R).row i a → (i, a) ∈ rowsL R := fun {i a} hr => rowsL_mem.mpr ⟨by rw [hD.len]; exact hr.1, hr.2⟩
      have hfb : FB P w K T.FC H8 x B R (fun a => H a = none) d (zipE (rowsL R) es) (fun _ _ _ _ => false) := by
        refine ⟨⟨dx, vb, vd, ve, hx8, hb.kf e8.kf, dp_kl e8.kf.kl _ _ hd, dp_kl e58.kf.kl _ _ pe5⟩, dnx hdn, fun i a hr => ?_, fun i a i' a' e hr hr' h1 h2 => ?_, fun i a hr h => ?_⟩
        · obtain ⟨v, hv⟩ := Option.isSome_iff_exists.mp (zipE_has hel.symm (hmem hr))
          obtain ⟨k', e, g1, g2, rfl⟩ := zipE_val hv
          obtain ⟨f1, f2, f3⟩ := hes e (List.mem_of_getElem? g2)
          refine ⟨e, [], hv, ?_, dnx f3, fun j b => by rw [valV_nil]; rfl, fun k hk => by cases hk⟩
          show H e = none
          cases q : H e with
          | none => rfl
          | some o =>
            by_cases hex : e = x
            · subst hex
              rw [e56 _ _ hx5] at f1; cases f1
            · have := e56 _ _ (e5.kept e o hex q)
              rw [this] at f1; cases f1
        · obtain ⟨k1, ea, g1, g2, g3⟩ := zipE_val h1
          obtain ⟨k2, eb, f1, f2, f3⟩ := zipE_val h2
          cases g3; cases f3
          have : k1 = k2 := (List.getElem?_inj (List.getElem?_eq_some_iff.mp g2).1 hnd).mp (g2.trans f2.symm)
          subst this
          rw [g1] at f1
          cases f1
          exact ⟨rfl, rfl⟩
        · obtain ⟨k1, ea, g1, g2, g3⟩ := zipE_val h
          cases g3
          exact (hes _ (List.mem_of_getElem? g2)).2.1 rfl
      have hps8 : H8 ps = some (.rng 0 (B.length : Int)) := e58.kept ps _ (fun z => by rw [z, hx5] at hps5; cases hps5) hps5
      let S1 : Nat → Nat → Nat → Nat → Nat → Bool := fun m i a j b => decide (i < m) && nearRB B R i a j b
      dsimp only
      refine s_forD (K := K) (D := { nx := fun x H' => Q V.non H', rt := Q }) (σ := [some (V.ref x), some vb, some vd, some (.ref ps), none, none, none]) (H := H8) (ei_rngV (GG := fun _ _ => True) rfl hps8 (by omega)) (fun H9 m σ' H' => KB (fun a => H a = none) H8 H' ∧ FB P w K T.FC H' x B R (fun a => H a = none) d (zipE (rowsL R) es) (S1 m) ∧ ∃ o4 o5 : Option V, σ' = [some (.ref x), some vb, some vd, some (.ref ps), o4, o5, none])
        (fun H9 e9 => ⟨KB.of_ex e9, (hfb.ex e9).cast (fun i a _ j b => by show false = (decide (i < 0) && _); simp), _, _, rfl⟩) (fun _ _ _ _ _ _ => trivial) ?_ ?_
      · rintro H9 m dd y σ' H10 H11 e9 hdd ⟨kb, hfb1, o4, o5, rfl⟩ e1011 py
        obtain ⟨i0, hi0, rfl⟩ := map_get hdd
        have hmB : m < B.length := by have := (List.getElem?_eq_some_iff.mp hi0).1; rwa [List.length_range] at this
        rw [List.getElem?_range hmB] at hi0
        cases hi0
        show tFor _ _ _ _ [some (.ref x), some vb, some vd, some (.ref ps), o4, some y, none] H11
        have hfb2 := hfb1.ex e1011
        obtain ⟨⟨dx', vb', vd', ve', q1, q2, q3, q4⟩, _⟩ := id hfb2
        cases dp_int py
        let S2 : Nat → Nat → Nat → Nat → Nat → Bool := fun q i a j b => S1 m i a j b || (decide (i = m) && (decide (j ∈ (besideN B m).take q) && (decide (b < (R.getD j []).length) && agreeB B R m a j b)))
        refine s_forD (ei_lstK (ed_op (ed_fld rfl q1 T.clF T.na_beside rfl q4) (ed_var rfl (Dp.int (m : Int))) (rd_ixL (beside_get hmB)))) (fun H12 q σ' H' => KX H12 H' ∧ KB (fun a => H a = none) H8 H' ∧ FB P w K T.FC H' x B R (fun a => H a = none) d (zipE (rowsL R) es) (S2 q) ∧ ∃ o4 : Option V, σ' = [some (.ref x), some vb, some vd, some (.ref ps), o4, some (.int (m : Int)), none])
          (fun H12 e12 => ⟨fun _ _ h _ => h, kb.trans (KB.of_ex (e1011.trans e12)), (hfb2.ex e12).cast (fun i a _ j b => by show S1 m i a j b = (S1 m i a j b || (decide (i = m) && (decide (j ∈ (besideN B m).take 0) && _))); simp), _, rfl⟩) (fun _ _ _ _ _ h => h.1) ?_ ?_
        · rintro H12 q dd2 y2 σ' H13 H14 e12 hdd2 ⟨kx, kb2, hfb3, o4, rfl⟩ e1314 py2
          obtain ⟨j0, hj0, rfl⟩ := map_get hdd2
          have hjm := besideN_mem.mp (List.mem_of_getElem? hj0)
          show tDrop _ _ [some (.ref x), some vb, some vd, some (.ref ps), some y2, some (.int (m : Int)), none] H14
          have hfb4 := hfb3.ex e1314
          obtain ⟨⟨dx2, vb2, vd2, ve2, r1, _⟩, _⟩ := id hfb4
          refine ⟨_, rfl, x, dx2, _, rfl, r1, rfl, ?_⟩
          refine ⟨_, rfl, _, rfl, ?_⟩
          refine ⟨x, _, _, B, R, (fun a => H a = none), d, _, _, m, j0, rfl, hfb4, hD, .int _, py2, hmB, hjm.1, fun H15 kb15 hfb15 => ?_⟩
          refine ⟨(kx.trans (KX.of_ex e1314)).trans kb15.1, (kb2.trans (KB.of_ex e1314)).trans kb15, hfb15.cast fun i a hr j b => ?_, _, rfl⟩
          have eT : (besideN B m).take (q + 1) = (besideN B m).take q ++ [j0] := take_succ_of hj0
          have eM : decide (j ∈ (besideN B m).take (q + 1)) = (decide (j ∈ (besideN B m).take q) || decide (j = j0)) := by
            rw [eT, Bool.eq_iff_iff, decide_eq_true_iff, Bool.or_eq_true, decide_eq_true_iff, decide_eq_true_iff, List.mem_append, List.mem_singleton]
          show ((S1 m i a j b || (decide (i = m) && (decide (j ∈ (besideN B m).take q) && (decide (b < (R.getD j []).length) && agreeB B R m a j b)))) || (decide (i = m) && (decide (j = j0) && (decide (b < (R.getD j0 []).length) && agreeB B R m a j0 b)))) = (S1 m i a j b || (decide (i = m) && (decide (j ∈ (besideN B m).take (q + 1)) && (decide (b < (R.getD j []).length) && agreeB B R m a j b))))
          rw [eM]
          by_cases hj : j = j0
          · subst hj
            rw [decide_eq_true rfl]
            cases S1 m i a j b <;> cases decide (i = m) <;> cases decide (j ∈ (besideN B m).take q) <;> simp
          · rw [decide_eq_false hj]; simp
        · rintro H12 σ' H13 e12 ⟨kx, kb2, hfb3, o4, rfl⟩
          rw [List.length_map] at hfb3
          refine ⟨kb2, hfb3.cast fun i a hr j b => ?_, _, _, rfl⟩
          show (S1 m i a j b || (decide (i = m) && (decide (j ∈ (besideN B m).take (besideN B m).length) && (decide (b < (R.getD j []).length) && agreeB B R m a j b)))) = S1 (m + 1) i a j b
          rw [List.take_length]
          show ((decide (i < m) && nearRB B R i a j b) || _) = (decide (i < m + 1) && nearRB B R i a j b)
          by_cases him : i = m
          · subst him
            have h1 : decide (i < i) = false := decide_eq_false (Nat.lt_irrefl i)
            have h2 : decide (i < i + 1) = true := decide_eq_true (Nat.lt_succ_self i)
            have h3 : decide (j ∈ besideN B i) = (decide (j < B.length) && nearB B i j) := by
              rw [Bool.eq_iff_iff, decide_eq_true_iff, Bool.and_eq_true, decide_eq_true_iff]; exact besideN_mem
            rw [h1, h2, h3, decide_eq_true rfl]
            unfold nearRB
            cases decide (j < B.length) <;> cases nearB B i j <;> rfl
          · have : decide (i < m + 1) = decide (i < m) := by rw [decide_eq_decide]; omega
            rw [this, decide_eq_false him]; simp
      · rintro H9 σ' H10 e9 ⟨kb, hfb1, o4, o5, rfl⟩
        rw [rgD_len] at hfb1
        refine k H10 (fun a o n h => ?_) (FB.done (hfb1.cast fun i a hr j b => ?_))
        · exact kb.2 a o (e8.kept a o n h) (fun (z : H a = none) => by rw [h] at z; cases z)
        · show (decide (i < B.length) && nearRB B R i a j b) = nearRB B R i a j b
          rw [decide_eq_true (show i < B.length from hr.1), Bool.true_and]
end
end BB
/-! M3: the search for all lots, plainly. -/
namespace BB
open PySem L2 Evl
/-- tags as a lot -/
def tOf (t : Tags) : Lt := fun i => t.getD i none
section
variable {B : List (List Int)} {R : List (List (List Int))} {L L' G : Lot} {s t : Nat}
theorem tagsL_len (B : List (List Int)) (L : Lot) : (tagsL B L).length = B.length := by
  unfold tagsL
  rw [List.length_map, List.length_range]
theorem tOf_tagsL (h : LotIn B R L) : tOf (tagsL B L) = look L := funext fun i => by
  show (tagsL B L).getD i none = look L i
  unfold tagsL
  rw [List.getD_eq_getElem?_getD, List.getElem?_map]
  by_cases hi : i < B.length
  · rw [List.getElem?_range hi]; rfl
  · rw [List.getElem?_eq_none (by rw [List.length_range]; omega)]
    cases q : look L i with
    | none => rfl
    | some u => exact absurd (h i u q).1 hi
theorem tOf_inj {t u : Tags} (hl : t.length = u.length) (h : tOf t = tOf u) : t = u := by
  refine List.ext_getElem hl fun i h1 h2 => ?_
  have := congrFun h i
  unfold tOf at this
  rw [List.getD_eq_getElem?_getD, List.getD_eq_getElem?_getD, List.getElem?_eq_getElem h1, List.getElem?_eq_getElem h2] at this
  exact this
theorem pc_lot (p : Pc B R L s t L') (hin : LotIn B R L) (h : (net B R).IsLt (look L)) (hr : (net B R).row s t) : LotIn B R L' ∧ (net B R).IsLt (look L') := by
  have ok := net_ok B R
  have hin' : LotIn B R L' := fun o u hu => by
    by_cases q : o = s
    · rw [q, p.at_s] at hu; cases hu; rw [q]; exact hr
    · exact hin o u (p.from_ o u q hu).1
  have hmem : ∀ {x : Nat}, x ∈ (net B R).alwL (look L) s t → x < B.length ∧ x ≠ s ∧ ∃ u, look L x = some u ∧ (nearB B x s = true → agreeB B R x u s t = true) := fun {x} hx => by
    obtain ⟨h1, h2⟩ := List.mem_filter.mp hx
    have h1 := List.mem_range.mp h1
    unfold Net.alw at h2
    rw [Bool.and_eq_true] at h2
    obtain ⟨h3, h4⟩ := h2
    refine ⟨h1, fun e => (by rw [decide_eq_true e] at h3; cases h3), ?_⟩
    cases q : look L x with
    | none => rw [q] at h4; cases h4
    | some u =>
      rw [q] at h4
      refine ⟨u, rfl, fun hn => ?_⟩
      have h4 : (!nearB B x s || agreeB B R x u s t) = true := h4
      rw [hn] at h4
      exact h4
  have hag : ∀ j b, j ≠ s → look L' j = some b → agreeB B R j b s t = true := fun j b hj hb => by
    obtain ⟨h1, h2⟩ := p.from_ j b hj hb
    have hjm : j ∈ (net B R).alwL (look L) s t := by
      cases h2 with
      | base => exact absurd rfl hj
      | step _ hx _ => exact hx
    obtain ⟨_, _, u, hu, hn⟩ := hmem hjm
    rw [h1] at hu; cases hu
    cases q : nearB B j s with
    | true => exact hn q
    | false => exact ok.far j b s t hj q
  refine ⟨hin', hin', fun i a j b hi hj hne => ?_, s, by rw [p.at_s]; rfl, fun x hx => ?_⟩
  · show agreeB B R i a j b = true
    by_cases q : i = s
    · have hi' : a = t := by rw [q, p.at_s] at hi; cases hi; rfl
      rw [q] at hne ⊢
      rw [hi', show agreeB B R s t j b = agreeB B R j b s t from ok.agsymm s t j b]
      exact hag j b (Ne.symm hne) hj
    · by_cases q2 : j = s
      · have hj' : b = t := by rw [q2, p.at_s] at hj; cases hj; rfl
        rw [q2, hj']
        exact hag i a q hi
      · exact h.agree i a j b (p.from_ i a q hi).1 (p.from_ j b q2 hj).1 hne
  · have key : ∀ x, Rch (nearB B) ((net B R).alwL (look L) s t) s x → Rch (nearB B) ((net B R).sup (look L')) s x := fun x r => by
      induction r with
      | base => exact .base
      | @step y z r hz hn ih =>
        obtain ⟨h1, h2, u, hu, _⟩ := hmem hz
        refine .step ih (List.mem_filter.mpr ⟨List.mem_range.mpr h1, ?_⟩) hn
        rw [p.all_ z h2 (.step r hz hn), hu]; rfl
    by_cases q : x = s
    · rw [q]; exact .base
    · obtain ⟨u, hu⟩ := Option.isSome_iff_exists.mp hx
      exact key x (p.from_ x u q hu).2
end
/-- a piece, as a lot -/
def Pcs (B : List (List Int)) (R : List (List (List Int))) (T : Lt) (s t : Nat) (X : Lt) : Prop := X s = some t ∧ ∀ x, x ≠ s → Rch (nearB B) ((net B R).alwL T s t) s x → X x = T x
structure LotOk (B : List (List Int)) (R : List (List (List Int))) (L : Lot) : Prop where
  nodup : (L.map (·.1)).Nodup
  inn : LotIn B R L
  lot : (net B R).IsLt (look L)
/-- where the search stands -/
structure Wl (B : List (List Int)) (R : List (List (List Int))) (F : List Tags) (Wt Ps : List Lot) (Bg : List Tags) : Prop where
  fmx : ∀ t ∈ F, t.length = B.length ∧ (net B R).Mx (tOf t)
  wok : ∀ L ∈ Wt, LotOk B R L ∧ tagsL B L ∈ F
  pok : ∀ L ∈ Ps, LotOk B R L
  bg : ∀ t ∈ Bg, ∃ t' ∈ F, Net.Le (tOf t) (tOf t')
  rows : ∀ s t, (net B R).row s t → (∃ L ∈ Ps, look L s = some t) ∨ ∃ t' ∈ F, tOf t' s = some t
  clo : ∀ t0 ∈ F, (∃ L ∈ Wt, tagsL B L = t0) ∨ ∀ o u s t, tOf t0 o = some u → nearB B o s = true → (net B R).row s t → agreeB B R o u s t = true → tOf t0 s ≠ some t → (∃ L ∈ Ps, Pcs B R (tOf t0) s t (look L)) ∨ ∃ t' ∈ F, Pcs B R (tOf t0) s t (tOf t')
section
variable {B : List (List Int)} {R : List (List (List Int))} {F Bg : List Tags} {Wt Ps P1 W1 : List Lot} {L G : Lot}
theorem one_look {s t i : Nat} : look [(s, t)] i = if i = s then some t else none := by
  rw [look_cons, look_nil]
  by_cases h : s = i
  · rw [if_pos h, if_pos h.symm]
  · rw [if_neg h, if_neg (Ne.symm h)]
theorem lot_one {s t : Nat} (hr : (net B R).row s t) : LotOk B R [(s, t)] := by
  have e : look [(s, t)] = fun i => if i = s then some t else none := funext fun i => one_look
  refine ⟨by simp, fun i a h => ?_, by rw [e]; exact Net.one_lot hr⟩
  rw [one_look] at h
  by_cases q : i = s
  · rw [if_pos q] at h; cases h; rw [q]; exact hr
  · rw [if_neg q] at h; cases h
theorem Wl.init (h : Ps = (rowsL R).map fun p => [(p.1, p.2)]) (hD : DataG B R) : Wl B R [] [] Ps [] where
  fmx := fun t h => by cases h
  wok := fun t h => by cases h
  pok := fun L hL => by
    rw [h] at hL
    obtain ⟨p, hp, rfl⟩ := List.mem_map.mp hL
    have := rowsL_mem.mp (show (p.1, p.2) ∈ rowsL R from hp)
    exact lot_one ⟨by show p.1 < B.length; rw [← hD.len]; exact this.1, this.2⟩
  bg := fun t h => by cases h
  rows := fun s t hr => .inl ⟨[(s, t)], by
    rw [h]
    exact List.mem_map.mpr ⟨(s, t), rowsL_mem.mpr ⟨by rw [hD.len]; exact hr.1, hr.2⟩, rfl⟩, by rw [one_look, if_pos rfl]⟩
  clo := fun t h => by cases h
/-- a lot is gone on from -/
theorem Wl.expand (h : Wl B R F (W1 ++ [L]) [] Bg) {rs : List (Nat × Nat)} (hrb : Rb B R L rs) (hp : Paired (fun (X : Lot) (p : Nat × Nat) => Pc B R L p.1 p.2 X) Ps rs) (hrow : ∀ p ∈ rs, (net B R).row p.1 p.2) : Wl B R F W1 Ps Bg := by
  have hL := h.wok L (by simp)
  have hT : tOf (tagsL B L) = look L := tOf_tagsL hL.1.inn
  have hfrom : ∀ X ∈ Ps, ∃ p ∈ rs, Pc B R L p.1 p.2 X := by
    clear h hrb
    induction hp with
    | nil => intro X hX; cases hX
    | @cons a b as bs r t ih =>
      intro X hX
      rcases List.mem_cons.mp hX with e | hX
      · exact ⟨b, List.mem_cons_self, e ▸ r⟩
      · obtain ⟨p, h1, h2⟩ := ih (fun p hp => hrow p (List.mem_cons_of_mem _ hp)) X hX
        exact ⟨p, List.mem_cons_of_mem _ h1, h2⟩
  have hto : ∀ p ∈ rs, ∃ X ∈ Ps, Pc B R L p.1 p.2 X := by
    clear h hrb hfrom hrow
    induction hp with
    | nil => intro X hX; cases hX
    | @cons a b as bs r t ih =>
      intro p hp
      rcases List.mem_cons.mp hp with e | hp
      · exact ⟨a, List.mem_cons_self, e ▸ r⟩
      · obtain ⟨X, h1, h2⟩ := ih p hp
        exact ⟨X, List.mem_cons_of_mem _ h1, h2⟩
  refine ⟨h.fmx, fun X hX => h.wok X (List.mem_append_left _ hX), fun X hX => ?_, h.bg, fun s t hr => ?_, fun t0 h0 => ?_⟩
  · obtain ⟨p, hp, pc⟩ := hfrom X hX
    obtain ⟨h1, h2⟩ := pc_lot pc hL.1.inn hL.1.lot (hrow p hp)
    exact ⟨pc.nodup, h1, h2⟩
  · rcases h.rows s t hr with ⟨X, hX, _⟩ | q
    · cases hX
    · exact .inr q
  · rcases h.clo t0 h0 with ⟨X, hX, e⟩ | q
    · rcases List.mem_append.mp hX with hX | hX
      · exact .inl ⟨X, hX, e⟩
      · rw [List.mem_singleton.mp hX] at e
        subst e
        refine .inr fun o u s t ho hn hr hag hne => .inl ?_
        rw [hT] at ho hne ⊢
        have hm : (s, t) ∈ rs := (hrb.2 s t).mpr ⟨⟨o, u, ho, by rw [nearRB_of hr.1 hr.2 hn]; exact hag⟩, hne⟩
        obtain ⟨X, hX, pc⟩ := hto (s, t) hm
        exact ⟨X, hX, pc.at_s, pc.all_⟩
    · refine .inr fun o u s t ho hn hr hag hne => ?_
      rcases q o u s t ho hn hr hag hne with ⟨X, hX, _⟩ | q
      · cases hX
      · exact .inr q
/-- a piece that lies in a lot found may go -/
theorem Wl.drop (h : Wl B R F Wt (P1 ++ [L]) Bg) {F' Bg' : List Tags} {Wt' : List Lot} (hf : ∀ t ∈ F, t ∈ F') (hfm : ∀ t ∈ F', t.length = B.length ∧ (net B R).Mx (tOf t)) (hw : ∀ X ∈ Wt', LotOk B R X ∧ tagsL B X ∈ F') (hww : ∀ X ∈ Wt, X ∈ Wt') (hnew : ∀ t ∈ F', t ∈ F ∨ ∃ X ∈ Wt', tagsL B X = t)
    (hc : ∃ t' ∈ F', Net.Le (look L) (tOf t')) (hb : ∀ t ∈ Bg', t ∈ Bg ∨ tOf t = look L) : Wl B R F' Wt' P1 Bg' := by
  obtain ⟨tc, hc1, hc2⟩ := hc
  have hpL := h.pok L (by simp)
  refine ⟨hfm, hw, fun X hX => h.pok X (List.mem_append_left _ hX), fun t ht => ?_, fun s t hr => ?_, fun t0 h0 => ?_⟩
  · rcases hb t ht with q | q
    · obtain ⟨t', h1, h2⟩ := h.bg t q
      exact ⟨t', hf _ h1, h2⟩
    · exact ⟨tc, hc1, by rw [q]; exact hc2⟩
  · rcases h.rows s t hr with ⟨X, hX, e⟩ | ⟨t', h1, h2⟩
    · rcases List.mem_append.mp hX with hX | hX
      · exact .inl ⟨X, hX, e⟩
      · rw [List.mem_singleton.mp hX] at e
        exact .inr ⟨tc, hc1, hc2 s t e⟩
    · exact .inr ⟨t', hf _ h1, h2⟩
  · rcases hnew t0 h0 with h0' | ⟨X, hX, e⟩
    · rcases h.clo t0 h0' with ⟨X, hX, e⟩ | q
      · exact .inl ⟨X, hww X hX, e⟩
      · refine .inr fun o u s t ho hn hr hag hne => ?_
        rcases q o u s t ho hn hr hag hne with ⟨X, hX, p1, p2⟩ | ⟨t', h1, h2⟩
        · rcases List.mem_append.mp hX with hX | hX
          · exact .inl ⟨X, hX, p1, p2⟩
          · rw [List.mem_singleton.mp hX] at p1 p2
            refine .inr ⟨tc, hc1, hc2 s t p1, fun x hx r => ?_⟩
            have e1 := p2 x hx r
            have hxm : x ∈ (net B R).alwL (tOf t0) s t := by
              cases r with
              | base => exact absurd rfl hx
              | step _ hz _ => exact hz
            have h3 := (List.mem_filter.mp hxm).2
            unfold Net.alw at h3
            cases q : tOf t0 x with
            | none => rw [q, Bool.and_false] at h3; cases h3
            | some w =>
              rw [q] at e1
              exact hc2 x w e1
        · exact .inr ⟨t', hf _ h1, h2⟩
    · exact .inl ⟨X, hX, e⟩
theorem Wl.old (h : Wl B R F Wt (P1 ++ [L]) Bg) {Bg' : List Tags} (hn : tagsL B L ∈ Bg) (hb : ∀ t ∈ Bg', t ∈ Bg ∨ t = tagsL B L) : Wl B R F Wt P1 Bg' := by
  have hT : tOf (tagsL B L) = look L := tOf_tagsL (h.pok L (by simp)).inn
  refine h.drop (fun t h => h) h.fmx h.wok (fun X h => h) (fun t h => .inl h) ?_ (fun t ht => (hb t ht).imp id fun e => by rw [e, hT])
  obtain ⟨t', h1, h2⟩ := h.bg _ hn
  exact ⟨t', h1, by rw [← hT]; exact h2⟩
theorem Wl.again (h : Wl B R F Wt (P1 ++ [L]) Bg) (g : Gr B R L G) {Bg' : List Tags} (hG : tagsL B G ∈ F) (hb : ∀ t ∈ Bg', t ∈ Bg ∨ t = tagsL B L) : Wl B R F Wt P1 Bg' := by
  have hT : tOf (tagsL B L) = look L := tOf_tagsL (h.pok L (by simp)).inn
  exact h.drop (fun t h => h) h.fmx h.wok (fun X h => h) (fun t h => .inl h) ⟨_, hG, by rw [tOf_tagsL g.inn]; exact g.le⟩ (fun t ht => (hb t ht).imp id fun e => by rw [e, hT])
theorem Gr.mx (g : Gr B R L G) (hs : (net B R).Sat (look G)) (hl : (net B R).IsLt (look L)) : (net B R).Mx (look G) := Net.Sat.mx (net_ok B R) (g.lot hl) hs
theorem Wl.more (h : Wl B R F Wt (P1 ++ [L]) Bg) (g : Gr B R L G) (hs : (net B R).Sat (look G)) {Bg' : List Tags} (hb : ∀ t ∈ Bg', t ∈ Bg ∨ t = tagsL B L) : Wl B R (F ++ [tagsL B G]) (Wt ++ [G]) P1 Bg' := by
  have hL := h.pok L (by simp)
  have hT : tOf (tagsL B L) = look L := tOf_tagsL hL.inn
  have hTG : tOf (tagsL B G) = look G := tOf_tagsL g.inn
  have hmx := g.mx hs hL.lot
  refine h.drop (fun t h => List.mem_append_left _ h) (fun t ht => ?_) (fun X hX => ?_) (fun X hX => List.mem_append_left _ hX) (fun t ht => ?_) ⟨_, List.mem_append_right _ (List.mem_singleton.mpr rfl), by rw [hTG]; exact g.le⟩ (fun t ht => (hb t ht).imp id fun e => by rw [e, hT])
  · rcases List.mem_append.mp ht with q | q
    · exact h.fmx t q
    · rw [List.mem_singleton.mp q]
      exact ⟨tagsL_len B G, by rw [hTG]; exact hmx⟩
  · rcases List.mem_append.mp hX with q | q
    · obtain ⟨h1, h2⟩ := h.wok X q
      exact ⟨h1, List.mem_append_left _ h2⟩
    · rw [List.mem_singleton.mp q]
      exact ⟨⟨g.nodup, g.inn, hmx.lot⟩, List.mem_append_right _ (List.mem_singleton.mpr rfl)⟩
  · rcases List.mem_append.mp ht with q | q
    · exact .inl q
    · exact .inr ⟨G, List.mem_append_right _ (List.mem_singleton.mpr rfl), (List.mem_singleton.mp q).symm⟩
/-- the lots, all of them -/
def LotsF (B : List (List Int)) (R : List (List (List Int))) (F : List Tags) : Prop := F.Nodup ∧ ∀ t : Tags, t ∈ F ↔ t.length = B.length ∧ (net B R).Mx (tOf t)
theorem Wl.done (h : Wl B R F [] [] Bg) (hn : F.Nodup) : LotsF B R F := by
  refine ⟨hn, fun t => ⟨h.fmx t, fun ⟨hl, hm⟩ => ?_⟩⟩
  have := Net.all_in (net_ok B R) (fun T => ∃ t ∈ F, T = tOf t) (fun T ⟨t, ht, e⟩ => e ▸ (h.fmx t ht).2) (fun i a hr => ?_) (fun T ⟨t0, h0, e⟩ o u s t ho hn hr hag hne => ?_) hm
  · obtain ⟨t', h1, h2⟩ := this
    have := tOf_inj (hl.trans (h.fmx t' h1).1.symm) h2
    exact this ▸ h1
  · rcases h.rows i a hr with ⟨X, hX, _⟩ | ⟨t', h1, h2⟩
    · cases hX
    · exact ⟨_, ⟨t', h1, rfl⟩, h2⟩
  · subst e
    rcases h.clo t0 h0 with ⟨X, hX, _⟩ | q
    · cases hX
    · rcases q o u s t ho hn hr hag hne with ⟨X, hX, _⟩ | ⟨t', h1, h2, h3⟩
      · cases hX
      · exact ⟨_, ⟨t', h1, rfl⟩, h2, h3⟩
end
/-! ### how many there may be -/
def allT : Nat → List Tags
  | 0 => [[]]
  | n + 1 => (allT n).flatMap fun t => [none, some 0, some 1, some 2].map fun a => a :: t
theorem allT_len : ∀ n, (allT n).length = 4 ^ n
  | 0 => rfl
  | n + 1 => by
    have : ∀ l : List Tags, (l.flatMap fun t => ([none, some 0, some 1, some 2] : List (Option Nat)).map fun a => a :: t).length = 4 * l.length := by
      intro l
      induction l with
      | nil => rfl
      | cons x l ih => rw [List.flatMap_cons, List.length_append, ih, List.length_cons]; simp; omega
    show ((allT n).flatMap _).length = _
    rw [this, allT_len n, Nat.pow_succ]
    omega
theorem allT_mem : ∀ (t : Tags), (∀ a ∈ t, ∀ k, a = some k → k < 3) → t ∈ allT t.length
  | [], _ => by simp [allT]
  | a :: t, h => by
    have ih := allT_mem t fun b hb => h b (List.mem_cons_of_mem _ hb)
    refine List.mem_flatMap.mpr ⟨t, ih, List.mem_map.mpr ⟨a, ?_, rfl⟩⟩
    cases a with
    | none => simp
    | some k =>
      have := h (some k) List.mem_cons_self k rfl
      have : k = 0 ∨ k = 1 ∨ k = 2 := by omega
      rcases this with rfl | rfl | rfl <;> simp
theorem lots_few {B : List (List Int)} {R : List (List (List Int))} {F : List Tags} (hD : DataG B R) (hn : F.Nodup) (h : ∀ t ∈ F, t.length = B.length ∧ (net B R).Mx (tOf t)) : F.length ≤ 256 := by
  have h1 : F.length ≤ (allT B.length).length := nodup_sub hn fun t ht => by
    obtain ⟨hl, hm⟩ := h t ht
    rw [← hl]
    refine allT_mem t fun a ha k e => ?_
    obtain ⟨i, hi⟩ := List.getElem?_of_mem ha
    have : tOf t i = some k := by
      unfold tOf
      rw [List.getD_eq_getElem?_getD, hi, e]; rfl
    have hr := hm.lot.row i k this
    have h2 : k < (R.getD i []).length := hr.2
    have hiR : i < R.length := by rw [hD.len]; exact hr.1
    have := hD.few _ (List.mem_of_getElem? (getD_of (d := []) hiR))
    omega
  rw [allT_len] at h1
  have : 4 ^ B.length ≤ 4 ^ 4 := Nat.pow_le_pow_right (by omega) hD.small
  have e : (4 : Nat) ^ 4 = 256 := by decide
  omega
end BB
/-! D12: lots_of. -/
namespace BB
open PySem L2 Evl
/-! ### lists of lots -/
def LR (H : Hp) (v : V) (L : Lot) : Prop := ∃ q, v = .ref q ∧ H q = some (.dK (lotK L))
def LsV (H : Hp) (l : Addr) (Ls : List Lot) : Prop := ∃ acc, H l = some (.lst acc) ∧ Paired (LR H) acc Ls
section
variable {H H' H2 : Hp} {l l' d : Addr} {Ls : List Lot} {L : Lot}
theorem LsV.to (h : LsV H l Ls) (h1 : ∀ xs, H l = some (.lst xs) → H' l = some (.lst xs)) (h2 : ∀ a kvs, H a = some (.dK kvs) → H' a = some (.dK kvs)) : LsV H' l Ls := let ⟨acc, g1, g2⟩ := h; ⟨acc, h1 _ g1, Paired.mapP g2 fun v L ⟨q, e, g⟩ => ⟨q, e, h2 _ _ g⟩⟩
theorem LsV.ex (h : LsV H l Ls) (e : Ex H H') : LsV H' l Ls := h.to (fun _ g => e _ _ g) fun _ _ g => e _ _ g
theorem LsV.kx (h : LsV H l Ls) (e : KX H H') : LsV H' l Ls := h.to (fun _ g => e _ _ g (fun _ z => nomatch z)) fun _ _ g => e _ _ g (fun _ z => nomatch z)
theorem LsV.step (h : LsV H l Ls) (s : Step l' H H2) (hne : l ≠ l') : LsV H2 l Ls := by
  obtain ⟨H1, xs, ys, e1, h1, rfl⟩ := s
  exact (h.ex e1).to (fun _ g => by rw [upd_ne hne]; exact g) fun a kvs g => by rw [upd_ne (fun z => by rw [z, h1] at g; cases g)]; exact g
theorem LsV.nil (h : H l = some (.lst [])) : LsV H l [] := ⟨[], h, .nil⟩
theorem pair_snoc {α β : Type} {F : α → β → Prop} : ∀ {xs : List α} {ys : List β} {y : β}, Paired F xs (ys ++ [y]) → ∃ x xs', xs = xs' ++ [x] ∧ Paired F xs' ys ∧ F x y
  | _, [], y, .cons h .nil => ⟨_, [], rfl, .nil, h⟩
  | _, b :: ys, y, .cons h t => by
    obtain ⟨x, xs', rfl, h1, h2⟩ := pair_snoc t
    exact ⟨x, _ :: xs', rfl, .cons h h1, h2⟩
theorem pair_len {α β : Type} {F : α → β → Prop} {xs : List α} {ys : List β} (h : Paired F xs ys) : xs.length = ys.length := Paired.length h
end
section
variable {P : Program} {w : World} {K : PySem.W.Frag} {σ : L2.St} {H : Hp} {te : TE} {wi : TI} {g : TG} {D : Ends} {tz : TS}
/-- l = .. pops a lot -/
theorem q_popL {l : Addr} {Ls : List Lot} {L : Lot} {i j : Nat} (hl : LsV H l (Ls ++ [L])) (hi : σ[i]? = some (some (.ref l))) (k : ∀ q H2, Step l H H2 → LsV H2 l Ls → H2 q = some (.dK (lotK L)) → tz D (σ.set j (some (.ref q))) H2) :
    tSeq (tAsg (tBM0 K "list" rPop (tVar i)) (gName j)) tz D σ H := by
  obtain ⟨acc, h1, h2⟩ := hl
  obtain ⟨x, acc', rfl, h3, q, rfl, h4⟩ := pair_snoc h2
  have st : Step l H (upd H l (.lst (acc' ++ [V.ref q]).dropLast)) := ⟨H, _, _, Ex.refl _, h1, rfl⟩
  have hne : q ≠ l := fun e => by rw [e, h1] at h4; cases h4
  have hk : ∀ a kvs, H a = some (.dK kvs) → (upd H l (.lst (acc' ++ [V.ref q]).dropLast)) a = some (.dK kvs) := fun a kvs h => by rw [upd_ne (fun e => by rw [e, h1] at h; cases h)]; exact h
  refine ⟨_, hi, Or.inl ⟨rfl, _, sq_of h1⟩, l, _, .ref q, rfl, rfl, h1, by simp, ?_⟩
  exact k q _ st ⟨acc', by rw [upd_same, List.dropLast_concat], Paired.mapP h3 fun v L ⟨q, e, g⟩ => ⟨q, e, hk _ _ g⟩⟩ (hk _ _ h4)
/-- xs.append(lot) -/
theorem q_appL {l a : Addr} {Ls : List Lot} {L : Lot} {i j : Nat} (hl : LsV H l Ls) (hi : σ[i]? = some (some (.ref l))) (hj : σ[j]? = some (some (.ref a))) (ha : H a = some (.dK (lotK L))) (hz : Ls.length < 100000) (k : ∀ H2, Step l H H2 → LsV H2 l (Ls ++ [L]) → tz D σ H2) :
    tSeq (tDrop (tBM K "list" rAppend (tVar i) (tCons (tVar j) tNil))) tz D σ H := by
  obtain ⟨acc, h1, h2⟩ := hl
  have st : Step l H (upd H l (.lst (acc ++ [V.ref a]))) := ⟨H, _, _, Ex.refl _, h1, rfl⟩
  have hk : ∀ b kvs, H b = some (.dK kvs) → (upd H l (.lst (acc ++ [V.ref a]))) b = some (.dK kvs) := fun b kvs h => by rw [upd_ne (fun e => by rw [e, h1] at h; cases h)]; exact h
  refine ⟨_, hi, Or.inl ⟨rfl, _, sq_of h1⟩, _, hj, l, acc, .ref a, rfl, rfl, h1, by rw [pair_len h2]; exact sz_lt hz, ?_⟩
  exact k _ st ⟨_, upd_same, Paired.snoc (Paired.mapP h2 fun v L ⟨q, e, g⟩ => ⟨q, e, hk _ _ g⟩) ⟨a, rfl, hk _ _ ha⟩⟩
/-- [lot for .. in ..] -/
theorem lc_lots {α : Type} {enc : α → PyData} {vs : List Nat} (Good : List α → Prop) (Pr : α → Lot → Prop) (hi : ∀ R : It → Hp → Prop, (∀ J H2 xs, Ex H H2 → Good xs → Walk J (xs.map enc).length (Ex H2) (YD K (xs.map enc)) → R J H2) → wi σ H R) (hz : ∀ xs, Good xs → xs.length ≤ 40000)
    (hg : ∀ xs d x H1, Good xs → d ∈ xs → Ex H H1 → Dp K H1 x (enc d) → ∃ σ2, (∀ Q : L2.St → Hp → Prop, Q σ2 H1 → g x (wipe σ vs) H1 Q) ∧ wipe σ2 vs = wipe σ vs ∧
      ∀ H2, Ex H1 H2 → ∀ Q : VK, (∀ q L H3, Ex H2 H3 → H3 q = some (.dK (lotK L)) → Pr d L → Q (.ref q) H3) → te σ2 H2 Q) {Q : VK}
    (q : ∀ xs l Ls H2, Good xs → Ex H H2 → H l = none → LsV H2 l Ls → Paired (fun (X : Lot) a => Pr a X) Ls xs → Q (.ref l) H2) : tLc wi g tYes te vs σ H Q := hi _ fun J H1 xs e1 hgood wk Dl hD => by
  have hz := hz xs hgood
  have hn : (xs.map enc).length = xs.length := List.length_map ..
  rw [hn] at wk
  refine lc_it wk (fun i H' => Ex H1 H' ∧ ∃ Ls, LsV H' Dl Ls ∧ Paired (fun (X : Lot) a => Pr a X) Ls (xs.take i)) ⟨Ex.new hD, [], LsV.nil upd_same, by rw [List.take_zero]; exact .nil⟩ (fun i H' _ p => p.1) ?_ ?_
  · rintro i x H' H'' hi' ⟨eH, Ls, h1, h2⟩ ⟨ey, d', hd', px⟩
    obtain ⟨d, hd, rfl⟩ := map_get hd'
    obtain ⟨σ2, g1, g2, g3⟩ := hg xs d x H'' hgood (List.mem_of_getElem? hd) (e1.trans (eH.trans ey)) px
    refine g1 _ ⟨g2, ?_⟩
    refine et_yes (σ := σ2) (H := H'') H'' (Ex.refl _) _ fun H3 e3 => ?_
    show te σ2 H3 _
    refine g3 H3 e3 _ fun a L H4 e4 h4 hp => ?_
    obtain ⟨acc, f1, f2⟩ := (h1.ex ey).ex (e3.trans e4)
    have hlen := pair_len h2
    rw [List.length_take] at hlen
    have hk : ∀ b kvs, H4 b = some (.dK kvs) → (upd H4 Dl (.lst (acc ++ [V.ref a]))) b = some (.dK kvs) := fun b kvs h => by rw [upd_ne (fun e => by rw [e, f1] at h; cases h)]; exact h
    refine ⟨acc, f1, by rw [pair_len f2]; exact sz_lt (by omega), Ex.mut (eH.trans (ey.trans (e3.trans e4))) hD, Ls ++ [L], ⟨_, upd_same, Paired.snoc (Paired.mapP f2 fun v L ⟨q, e, g⟩ => ⟨q, e, hk _ _ g⟩) ⟨a, rfl, hk _ _ h4⟩⟩, ?_⟩
    rw [take_succ_of hd]
    exact Paired.snoc h2 hp
  · rintro H' ⟨eH, Ls, h1, h2⟩
    rw [List.take_length] at h2
    exact q xs Dl Ls H' hgood (e1.trans eH) (fresh_back e1 hD) h1 h2
theorem q_asgN {j : Nat} (h : ∀ d H1, H d = none → Ex H H1 → DN P w K H1 d [] → tz D (σ.set j (some (.ref d))) H1) : tSeq (tAsg (tNewN P w K) (gName j)) tz D σ H := fun d H1 hd ⟨φ, hu⟩ dn => h d H1 hd (by rw [hu]; exact Ex.new hd) dn
theorem q_putN {d : Addr} {kvs : List (NestedKey × V)} {k : NestedKey} {v : V} {ty : TE} {i : Nat} (hd : DN P w K H d kvs) (hi : σ[i]? = some (some (.ref d))) (hk : KeyN k) (hx : ED K ty σ H k.data) (hz : kvs.length < 100000) (kk : ∀ H2, StepN d H H2 → DN P w K H2 d (putK kvs k v) → tz D σ H2) :
    tSeq (sPutN P w K (tVar i) ty (tC v)) tz D σ H := ⟨_, hi, hx H (Ex.refl _) _ fun y H2 e2 py => ⟨d, kvs, k, rfl, hd.ex e2, hk, py, hz, fun H4 st dn => kk H4 (by
    obtain ⟨H5, φ, ψ, e5, h5, rfl⟩ := st
    exact ⟨H5, φ, ψ, e2.trans e5, h5, rfl⟩) dn⟩⟩
theorem et_notN_ref {a : Addr} {i : Nat} (hs : σ[i]? = some (some (.ref a))) : EvT (tTest (tOp (fun x y H Q => y = .non ∧ Q (.bl (!decide (x = .non))) H) (tVar i) (tC .non))) σ H true := fun H1 e Q q => ⟨_, hs, rfl, _, rfl, q H1 (Ex.refl _)⟩
theorem s_asgR {j : Nat} (h : te σ H fun v H1 => D.nx (σ.set j (some v)) H1) : tAsg te (gName j) D σ H := h
theorem ed_lenN {d : Addr} {kvs : List (NestedKey × V)} {i : Nat} (hd : DN P w K H d kvs) (hi : σ[i]? = some (some (.ref d))) : ED K (tCB (rLenN P w K) (tCons (tVar i) tNil)) σ H (.int (kvs.length : Int)) := fun H1 e Q q => ⟨_, hi, d, kvs, rfl, hd.ex e, q _ H1 (Ex.refl _) (.int _)⟩
theorem et_neL {l : Addr} {Ls : List Lot} {i : Nat} (hl : LsV H l Ls) (hi : σ[i]? = some (some (.ref l))) : EvT (tTest (tOp (rNeE K) (tVar i) (tLst tNil))) σ H (!Ls.isEmpty) := fun H1 e Q q => by
  obtain ⟨acc, h1, h2⟩ := hl.ex e
  refine ⟨_, hi, sz_of (Nat.zero_le _), fun p hp => ?_⟩
  have hne : l ≠ p := fun z => by rw [← z, h1] at hp; cases hp
  refine ⟨l, p, acc, rfl, rfl, sq_of (by rw [upd_ne hne]; exact h1), sq_of upd_same, _, rfl, ?_⟩
  have : acc.isEmpty = Ls.isEmpty := by cases h2 <;> rfl
  rw [this]
  exact q _ (Ex.new hp)
theorem et_eqL {l : Addr} {Ls : List Lot} {i : Nat} (hl : LsV H l Ls) (hi : σ[i]? = some (some (.ref l))) : EvT (tTest (tOp (rEqE K) (tVar i) (tLst tNil))) σ H Ls.isEmpty := fun H1 e Q q => by
  obtain ⟨acc, h1, h2⟩ := hl.ex e
  refine ⟨_, hi, sz_of (Nat.zero_le _), fun p hp => ?_⟩
  have hne : l ≠ p := fun z => by rw [← z, h1] at hp; cases hp
  refine ⟨l, p, acc, rfl, rfl, sq_of (by rw [upd_ne hne]; exact h1), sq_of upd_same, _, rfl, ?_⟩
  have : acc.isEmpty = Ls.isEmpty := by cases h2 <;> rfl
  rw [this]
  exact q _ (Ex.new hp)
/-- a name in, not in a dict -/
theorem ed_niN {d : Addr} {kvs : List (NestedKey × V)} {k : NestedKey} {tx : TE} {i : Nat} (hd : DN P w K H d kvs) (hi : σ[i]? = some (some (.ref d))) (hk : KeyN k) (hx : ED K tx σ H k.data) : ED K (tOp (rNiN P w K) tx (tVar i)) σ H (.bool (!(valV kvs k).isSome)) := fun H1 e Q q =>
  hx H1 e _ fun y H2 e2 py => ⟨_, hi, d, kvs, k, rfl, hd.ex (e.trans e2), hk, py, q _ H2 e2 (.bl _)⟩
end
/-! ### tags as keys -/
def tagN : Option Nat → NestedKey
  | none => .none
  | some k => .num (k : Int)
def tagK (t : Tags) : NestedKey := .tup (t.map tagN)
theorem tagK_data (t : Tags) : (tagK t).data = tagsD t := by
  have key : ∀ t : Tags, NestedKey.datas (t.map tagN) = t.map tagD := by
    intro t
    induction t with
    | nil => rfl
    | cons a t ih =>
      show NestedKey.data (tagN a) :: NestedKey.datas (t.map tagN) = tagD a :: t.map tagD
      rw [ih]
      cases a <;> rfl
  show PyData.tuple (NestedKey.datas (t.map tagN)) = PyData.tuple (t.map tagD)
  rw [key]
theorem tagK_key (t : Tags) : KeyN (tagK t) := by
  refine ⟨⟨_, rfl⟩, ?_, by rw [tagK_data]; exact stay_tupled _ (tupled_tags t)⟩
  have key : ∀ t : Tags, NestedKey.depthAll (t.map tagN) = 0 := by
    intro t
    induction t with
    | nil => rfl
    | cons a t ih =>
      show max (NestedKey.depth (tagN a)) (NestedKey.depthAll (t.map tagN)) = 0
      rw [ih]
      cases a <;> rfl
  show NestedKey.depthAll (t.map tagN) + 1 ≤ 8
  rw [key]; decide
theorem tagN_inj {a b : Option Nat} (h : tagN a = tagN b) : a = b := by
  cases a with
  | none => cases b with
    | none => rfl
    | some _ => cases h
  | some i => cases b with
    | none => cases h
    | some j =>
      injection h with h
      rw [show i = j by omega]
theorem tagK_inj {t u : Tags} (h : tagK t = tagK u) : t = u := by
  have h : t.map tagN = u.map tagN := by injection h
  exact (List.map_inj_right (f := tagN) (fun a b e => tagN_inj e)).mp h
/-- a dict of tags -/
abbrev setK (F : List Tags) : List (NestedKey × V) := F.map fun t => (tagK t, V.bl true)
theorem setK_is {F : List Tags} {t : Tags} : (valV (setK F) (tagK t)).isSome = decide (t ∈ F) := by
  rw [Bool.eq_iff_iff, ← keys_iff, decide_eq_true_iff, List.map_map, List.mem_map]
  exact ⟨fun ⟨u, h, e⟩ => tagK_inj e ▸ h, fun h => ⟨t, h, rfl⟩⟩
theorem setK_put {F : List Tags} {t : Tags} (h : t ∉ F) : putK (setK F) (tagK t) (V.bl true) = setK (F ++ [t]) := by
  have hn : valV (setK F) (tagK t) = none := by
    have := setK_is (F := F) (t := t)
    rw [decide_eq_false h] at this
    cases q : valV (setK F) (tagK t) with
    | none => rfl
    | some _ => rw [q] at this; cases this
  rw [putK_new _ hn]
  show _ = (F ++ [t]).map _
  rw [List.map_append]; rfl
theorem setK_old {F : List Tags} {t : Tags} (h : t ∈ F) : putK (setK F) (tagK t) (V.bl true) = setK F := by
  unfold putK
  have : ((setK F).any fun kv => decide (kv.1 = tagK t)) = true := by
    rw [valV_any, setK_is, decide_eq_true h]
  rw [if_pos this]
  show (F.map _).map _ = F.map _
  rw [List.map_map]
  refine List.map_congr_left fun u _ => ?_
  show (if tagK u = tagK t then (tagK u, V.bl true) else (tagK u, V.bl true)) = (tagK u, V.bl true)
  split <;> rfl
theorem setK_nodup {F : List Tags} (h : ((setK F).map (·.1)).Nodup) : F.Nodup := by
  have e : (setK F).map (·.1) = F.map tagK := by rw [List.map_map]; rfl
  rw [e] at h
  clear e
  induction F with
  | nil => exact List.nodup_nil
  | cons a F ih =>
    rw [List.map_cons, List.nodup_cons] at h
    exact List.nodup_cons.mpr ⟨fun q => h.1 (List.mem_map.mpr ⟨a, q, rfl⟩), ih h.2⟩
def LoSp (P : Program) (w : World) (K : PySem.W.Frag) (C : Addr) : Sp := fun vs H Q _ => ∃ x B R, vs = [.ref x] ∧ FitsObj P w K C H x B R ∧ DataG B R ∧
  ∀ l xs F H', Ex H H' → H l = none → H' l = some (.lst xs) → DpAll K H' xs (F.map tagsD) → LotsF B R F → Q (.ref l) H'
section
variable {P : Program} {w : World} {K : PySem.W.Frag} {mg : Str → Option Value} {base : Heap}
theorem StepN.ex0 {d : Addr} {H0 H H2 : Hp} (s : StepN d H H2) (e : Ex H0 H) (hn : H0 d = none) : Ex H0 H2 := by
  obtain ⟨H1, φ, ψ, e1, h1, rfl⟩ := s
  exact Ex.mut (e.trans e1) hn
theorem Step.dn {l d : Addr} {H H2 : Hp} {kvs : List (NestedKey × V)} (s : Step l H H2) (h : DN P w K H d kvs) : DN P w K H2 d kvs := by
  have tk := s.tk
  refine h.tk tk ?_
  obtain ⟨φ, hd⟩ := h.some
  obtain ⟨H1, xs, ys, e1, h1, rfl⟩ := s
  have h2 := e1 _ _ hd
  rw [upd_ne (fun z => by rw [z, h1] at h2; cases h2), h2, hd]
theorem FitsObj.at {C x : Addr} {H : Hp} {B : List (List Int)} {R : List (List (List Int))} (h : FitsObj P w K C H x B R) : ∃ dx vb vd ve d, H x = some (.ins C dx [("book", vb), ("data", vd), ("beside", ve), ("near", .ref d)]) ∧ Dp K H vd (dataD R) := by
  obtain ⟨dx, vb, vd, ve, d, kvs, h1, h2, h3, h4, h5, h6⟩ := h
  exact ⟨dx, vb, vd, ve, d, h1, h3⟩
theorem sc_lots_of : FnScope ["fits", "found", "waiting", "begun", "pieces", "source", "tag", "lot", "row", "piece", "name"] ["fits"] (defScope st_lots_of) := ⟨rfl, rfl, rfl, by decide +kernel, rfl, by decide +kernel, by decide +kernel⟩
theorem ok_lots_of (T : Txt K mg) : FnOk P w K mg base CX0 4 T.d_lots_of.f T.d_lots_of.fd ["fits"] (LoSp P w K T.FC) := by
  refine T.d_lots_of.F.ok sc_lots_of ?len (fun cdv A outer s H vs Q E hr h => ?_)
  case len =>
    rintro vs H Q E ⟨x, B, R, rfl, _⟩
    rfl
  obtain ⟨x, B, R, rfl, hF, hD, k⟩ := h
  refine ⟨_, (pss_cons (ps_set (i := 1) sc_lots_of.nd rfl (by first | exact Or.inl rfl | exact Or.inr rfl) (newNK (P := P) (w := w) (K := K)))
      (pss_cons (ps_set (i := 2) sc_lots_of.nd rfl (by first | exact Or.inl rfl | exact Or.inr rfl) (pe_lst pa_nil))
      (pss_cons (ps_set (i := 3) sc_lots_of.nd rfl (by first | exact Or.inl rfl | exact Or.inr rfl) (newNK (P := P) (w := w) (K := K)))
      (pss_cons (ps_setLc (i := 4) (own := [("source", 5), ("tag", 6)]) rfl sc_lots_of.nd rfl rfl (sw_true rfl rfl rfl (by decide +kernel)) (piLK (K := K) (pe_meth0 (pv 0) T.clF T.m_rows (ok_Fits_rows (P := P) (w := w) T) (hr.mono (by decide)) T.m_rows_b .nil pass0)) (blkOk_by (own := [("source", 5), ("tag", 6)]) (N := ["fits", "found", "waiting", "begun", "pieces", "source", "tag", "lot", "row", "piece", "name"]) (sc := defScope st_lots_of) (by decide +kernel)) (fun _ _ _ _ _ => (pgTK (K := K) (n := 2) rfl (pgs_cons (pg_name (i := 5) sc_lots_of.nd rfl (by first | exact Or.inl rfl | exact Or.inr rfl)) (pgs_cons (pg_name (i := 6) sc_lots_of.nd rfl (by first | exact Or.inl rfl | exact Or.inr rfl)) pgs_nil)))) (fun _ _ _ _ _ => pts_nil) (fun _ _ _ _ _ => (pe_disp (pps_cons (pv 5) (pv 6) pps_nil) rfl rfl (by simp) (by decide))))
      (pss_cons (ps_while PassesOwn.never (PW.pt (pw_or (pt_cmpR (neEK (K := K) hr) (pv 4) (pe_lst pa_nil) (nomark _)) (pw_or1 (pt_cmpR (neEK (K := K) hr) (pv 2) (pe_lst pa_nil) (nomark _)))))
      (pss_one (ps_if (pt_cmpR (eqEK (K := K) hr) (pv 4) (pe_lst pa_nil) (nomark _))
        (pss_cons (ps_set (i := 7) sc_lots_of.nd rfl (by first | exact Or.inl rfl | exact Or.inr rfl) (pe_bm0 PySem.F.plainAttrs_list PySem.F.slot_list_pop PySem.F.type_list_pop mt_pop (pv 2)))
          (pss_one (ps_setLc (i := 4) (own := [("row", 8)]) rfl sc_lots_of.nd rfl rfl (sw_true rfl rfl rfl (by decide +kernel)) (piLK (K := K) (pe_meth (pv 0) T.clF T.m_rows_beside (ok_Fits_rows_beside (P := P) (w := w) T) (hr.mono (by decide)) T.m_rows_beside_b .nil pass0 (pa_cons (pv 7) pa_nil))) (blkOk_by (own := [("row", 8)]) (N := ["fits", "found", "waiting", "begun", "pieces", "source", "tag", "lot", "row", "piece", "name"]) (sc := defScope st_lots_of) (by decide +kernel)) (fun _ _ _ _ _ => (pg_name (i := 8) sc_lots_of.nd rfl (by first | exact Or.inl rfl | exact Or.inr rfl))) (fun _ _ _ _ _ => pts_nil) (fun _ _ _ _ _ => (pe_meth (pv 0) T.clF T.m_piece (ok_Fits_piece (P := P) (w := w) T) (hr.mono (by decide)) T.m_piece_b .nil pass0 (pa_cons (pv 7) (pa_cons (pv 8) pa_nil)))))))
        (pss_cons (ps_set (i := 9) sc_lots_of.nd rfl (by first | exact Or.inl rfl | exact Or.inr rfl) (pe_bm0 PySem.F.plainAttrs_list PySem.F.slot_list_pop PySem.F.type_list_pop mt_pop (pv 4)))
          (pss_cons (ps_set (i := 10) sc_lots_of.nd rfl (by first | exact Or.inl rfl | exact Or.inr rfl) (pe_meth (pv 0) T.clF T.m_tags (ok_Fits_tags (P := P) (w := w) T) (hr.mono (by decide)) T.m_tags_b .nil pass0 (pa_cons (pv 9) pa_nil)))
          (pss_cons (ps_set (i := 7) sc_lots_of.nd rfl (by first | exact Or.inl rfl | exact Or.inr rfl) (pe_ifExp (pt_cmpR (niNK (P := P) (w := w) (K := K) (room_n hr)) (pv 10) (pv 3) (by rfl)) (pe_meth (pv 0) T.clF T.m_greatest (ok_Fits_greatest (P := P) (w := w) T) (hr.mono (by decide)) T.m_greatest_b .nil pass0 (pa_cons (pv 9) pa_nil)) pe_non))
          (pss_cons (putNK (P := P) (w := w) (K := K) (room_n hr) (pv 3) (pv 10) pe_bl rfl)
          (pss_one (ps_if (PW.pt (pw_and (pt_cmpR op_notN (pv 7) pe_non (nomark _)) (pw_and1 (pt_cmpR (niNK (P := P) (w := w) (K := K) (room_n hr)) (pe_meth (pv 0) T.clF T.m_tags (ok_Fits_tags (P := P) (w := w) T) (hr.mono (by decide)) T.m_tags_b .nil pass0 (pa_cons (pv 7) pa_nil)) (pv 1) (by rfl)))))
          (pss_cons (putNK (P := P) (w := w) (K := K) (room_n hr) (pv 1) (pe_meth (pv 0) T.clF T.m_tags (ok_Fits_tags (P := P) (w := w) T) (hr.mono (by decide)) T.m_tags_b .nil pass0 (pa_cons (pv 7) pa_nil)) pe_bl rfl)
            (pss_cons (ps_expr (pe_bm PySem.F.plainAttrs_list PySem.F.slot_list_append PySem.F.type_list_append mt_append (pv 2) (pa_cons (pv 7) pa_nil)))
            (pss_one (ps_if (pt_cmpR op_gt (pe_callB (lenNK (P := P) (w := w) (K := K)) (by rfl) T.b_len (by decide +kernel) (pa_cons (pv 1) pa_nil)) (pe_glob (v := .int 3000) (by rfl) T.c_MOST_LOTS ⟨_, rfl⟩) (nomark _))
            (pss_one ps_never)
            pss_nil))))
          pss_nil)))))))))
      (pss_one (ps_ret (pe_callTy (listNK (P := P) (w := w) (K := K) rfl) (by rfl) T.b_list (by decide +kernel) (pa_cons (pv 1) pa_nil))))))))), ?_⟩
  have hsm := hD.small
  have hRl : R.length ≤ 4 := by rw [hD.len]; exact hsm
  have hrl := rowsL_len hRl hD.few
  refine q_asgN fun df H1 hdf e1 dnf => ?_
  refine q_asgL (xs := []) (Evl.el_lst ea_nil (by show 0 ≤ 100000; decide)) fun lw H2 hlw e2 hlw2 => ?_
  have e02 := e1.trans e2
  refine q_asgN fun db H3 hdb e3 dnb => ?_
  have e03 := e02.trans e3
  have hne1 : df ≠ db := fun e => by
    obtain ⟨φ, h⟩ := (dnf.ex e2).some
    rw [e, hdb] at h; cases h
  have hlw3 := e3 _ _ hlw2
  have hF3 := hF.ex e03
  -- the first pieces
  dsimp only
  refine q_asgR (σ := [some (.ref x), some (.ref df), some (.ref lw), some (.ref db), none, none, none, none, none, none, none]) (D := { nx := fun x H' => Q V.non H', rt := Q }) (H := H3) (j := 4) ?_
  refine lc_lots (K := K) (enc := rowP) (fun xs => xs = rowsL R) (fun p L => L = [(p.1, p.2)]) (fun RR kk => ?_) (fun xs h => by rw [h]; omega) (fun xs p y H4 _ hp e4 py => ?_) fun xs lp Ps H4 hxs e4 hlp hps hpr => ?_
  · obtain ⟨dx, vb, vd, ve, dn, g1, g2⟩ := hF3.at
    refine ⟨_, rfl, x, dx, _, rfl, g1, rfl, x, dx, _, vd, R, rfl, g1, rfl, g2, hRl, hD.few, fun l xs H4 e4 hl h4 d4 => ?_⟩
    exact ⟨l, rfl, ⟨xs, sq_of h4⟩, kk _ H4 _ e4 rfl (walk_lstD (fun H' g => ⟨ex_l g (sq_of h4), d4.ex g⟩) (by rw [d4.length]))⟩
  · obtain ⟨q, us, rfl, h1, h2⟩ := dp_tup py
    obtain ⟨u, v, rfl, h3, h4⟩ := dpa2 h2
    cases dp_int h3; cases dp_int h4
    refine ⟨[some (.ref x), some (.ref df), some (.ref lw), some (.ref db), none, some (.int (p.1 : Int)), some (.int (p.2 : Int)), none, none, none, none], fun Q hQ => ⟨q, _, rfl, h1, rfl, _, _, rfl, _, _, rfl, rfl, hQ⟩, rfl, fun H5 e5 Q hQ a ha => ?_⟩
    refine ⟨_, rfl, _, rfl, upd_same, lotK [(p.1, p.2)], rfl, (by show 1 ≤ 15; decide), ?_⟩
    rw [upd_upd]
    exact hQ a _ _ (Ex.new ha) upd_same rfl
  have hpr' : Ps = (rowsL R).map fun p => [(p.1, p.2)] := by
    subst hxs
    generalize rowsL R = xs at hpr
    clear hps
    induction hpr with
    | nil => rfl
    | cons h t ih => rw [List.map_cons, h, ih]
  have hPl : Ps.length = (rowsL R).length := by rw [hpr', List.length_map]
  have e04 := e03.trans e4
  have hlw0 : H lw = none := fresh_back e1 hlw
  have hdb0 : H db = none := fresh_back e02 hdb
  refine q_while (fun m σ' H' => ∃ (F : List Tags) (Wt Ps : List Lot) (Bg : List Tags) (lp : Addr) (o5 o6 o7 o8 o9 o10 : Option V), Ex H H' ∧ H lp = none ∧ lp ≠ lw ∧ DN P w K H' df (setK F) ∧ DN P w K H' db (setK Bg) ∧ LsV H' lw Wt ∧ LsV H' lp Ps ∧ Wl B R F Wt Ps Bg ∧ Ps.length ≤ 12 ∧ Wt.length ≤ F.length ∧ Bg.length ≤ 100000 - (14 * (256 - F.length) + 13 * Wt.length + Ps.length) ∧ m = 14 * (256 - F.length) + 13 * Wt.length + Ps.length ∧ σ' = [some (.ref x), some (.ref df), some (.ref lw), some (.ref db), some (.ref lp), o5, o6, o7, o8, o9, o10]) (14 * 256 + Ps.length)
    ⟨[], [], Ps, [], lp, none, none, none, none, none, none, e04, fresh_back e03 hlp, fun e => (by rw [e, hlw3] at hlp; cases hlp), ((dnf.ex e2).ex e3).ex e4, dnb.ex e4, (LsV.nil hlw3).ex e4, hps, Wl.init hpr' hD, by omega, Nat.zero_le _, Nat.zero_le _, by simp, rfl⟩ ?_
  rintro m σ' H' ⟨F, Wt, Ps, Bg, lp, o5, o6, o7, o8, o9, o10, e, hlp0, hlpw, dnF, dnB, lsW, lsP, wl, hP12, hWF, hBg, rfl, rfl⟩
  have hFn := setK_nodup dnF.nodup
  have hF256 := lots_few hD hFn wl.fmx
  refine ⟨!Ps.isEmpty || !Wt.isEmpty, et_or (et_neL lsP rfl) fun _ => et_neL lsW rfl, fun hx H4 e4 => ?_, fun hx H4 e4 => ?_⟩
  · refine ⟨_, fun σ2 H2 h => h, ?_⟩
    refine s_ifD (et_eqL (lsP.ex e4) rfl) (fun hpe H5 e5 => ?_) (fun hpe H5 e5 => ?_)
    · -- a lot is gone on from
      have hPs : Ps = [] := by cases Ps with
        | nil => rfl
        | cons _ _ => cases hpe
      subst hPs
      have hWne : Wt ≠ [] := by rintro rfl; simp at hx
      obtain ⟨W1, L, rfl⟩ : ∃ W1 L, Wt = W1 ++ [L] := ⟨Wt.dropLast, Wt.getLast hWne, (List.dropLast_concat_getLast hWne).symm⟩
      have e45 := e4.trans e5
      refine q_popL (K := K) (lsW.ex e45) rfl fun q H6 st6 lsW6 hq6 => ?_
      have e06 := st6.ex0 (e.trans e45) hlw0
      have hL := wl.wok L (by simp)
      have hF6 := hF.ex e06
      refine s_asgR (σ := [some (.ref x), some (.ref df), some (.ref lw), some (.ref db), some (.ref lp), o5, o6, some (.ref q), o8, o9, o10]) (H := H6) (j := 4) ?_
      refine lc_lots (K := K) (enc := rowP) (fun rs => Rb B R L rs) (fun p X => Pc B R L p.1 p.2 X) (fun RR kk => ?_) (fun xs h => by have := h.1; omega) (fun rs p y H7 hrs hp e7 py => ?_) fun rs lp' Ps H7 hrs e7 hlp' hps hpr => ?_
      · obtain ⟨dx, vb, vd, ve, dn, g1, g2⟩ := hF6.at
        refine ⟨_, rfl, x, dx, _, rfl, g1, rfl, _, rfl, x, q, B, R, L, rfl, hF6, hD, hq6, hL.1.nodup, hL.1.inn, fun l xs rs H7 e7 hl h7 d7 hrb => ?_⟩
        exact ⟨l, rfl, ⟨xs, sq_of h7⟩, kk _ H7 _ e7 hrb (walk_lstD (fun H' g => ⟨ex_l g (sq_of h7), d7.ex g⟩) (by rw [d7.length]))⟩
      · have hrow : (net B R).row p.1 p.2 := by
          obtain ⟨⟨o, u, _, hn⟩, _⟩ := (hrs.2 p.1 p.2).mp hp
          unfold nearRB at hn
          simp only [Bool.and_eq_true, decide_eq_true_eq] at hn
          exact ⟨hn.2.1, hn.2.2.1⟩
        refine ⟨[some (.ref x), some (.ref df), some (.ref lw), some (.ref db), some (.ref lp), o5, o6, some (.ref q), some y, o9, o10], fun Q hQ => hQ, rfl, fun H8 e8 Q hQ => ?_⟩
        have hF8 := hF6.ex (e7.trans e8)
        obtain ⟨dx, vb, vd, ve, dn, g1, g2⟩ := hF8.at
        refine ⟨_, rfl, x, dx, _, rfl, g1, rfl, _, rfl, _, rfl, x, _, y, B, R, L, p.1, p.2, rfl, hF8, hD, LotV.of (e8 _ _ (e7 _ _ hq6)) hL.1.nodup, hL.1.inn, py.ex e8, hrow, fun a L' H9 e9 _ h9 pc => ?_⟩
        exact hQ a L' H9 e9 h9 pc
      · have hPl : Ps.length ≤ 12 := by rw [pair_len hpr]; exact hrs.1
        have hnl : (W1 ++ [L]).length = W1.length + 1 := by rw [List.length_append]; rfl
        have lw6 : ∃ acc, H6 lw = some (.lst acc) := let ⟨acc, h, _⟩ := lsW6; ⟨acc, h⟩
        have hlpw' : lp' ≠ lw := fun z => by
          obtain ⟨acc, h⟩ := lw6
          rw [z, h] at hlp'; cases hlp'
        refine ⟨_, ?_, F, W1, Ps, Bg, lp', _, _, _, _, _, _, e06.trans e7, fresh_back e06 hlp', hlpw', (st6.dn (dnF.ex e45)).ex e7, (st6.dn (dnB.ex e45)).ex e7, lsW6.ex e7, hps, wl.expand hrs hpr fun p hp => ?_, hPl, by omega, ?_, rfl, rfl⟩
        · rw [hnl]; simp only [List.length_nil]; omega
        · obtain ⟨⟨o, u, _, hn⟩, _⟩ := (hrs.2 p.1 p.2).mp hp
          unfold nearRB at hn
          simp only [Bool.and_eq_true, decide_eq_true_eq] at hn
          exact ⟨hn.2.1, hn.2.2.1⟩
        · rw [hnl] at hBg; simp only [List.length_nil] at hBg; omega
    · -- a piece is looked at
      have hPne : Ps ≠ [] := by rintro rfl; cases hpe
      obtain ⟨P1, L, rfl⟩ : ∃ P1 L, Ps = P1 ++ [L] := ⟨Ps.dropLast, Ps.getLast hPne, (List.dropLast_concat_getLast hPne).symm⟩
      have e45 := e4.trans e5
      have hnl : (P1 ++ [L]).length = P1.length + 1 := by rw [List.length_append]; rfl
      rw [hnl] at hBg hP12
      refine q_popL (K := K) (lsP.ex e45) rfl fun q H6 st6 lsP6 hq6 => ?_
      have e06 := st6.ex0 (e.trans e45) hlp0
      have lsW6 := (lsW.ex e45).step st6 (Ne.symm hlpw)
      have dnF6 := st6.dn (dnF.ex e45)
      have dnB6 := st6.dn (dnB.ex e45)
      have hL := wl.pok L (by simp)
      have hF6 := hF.ex e06
      have hLq : LotV H6 (.ref q) L := LotV.of hq6 hL.nodup
      refine q_asgD (K := K) (ed_meth L rfl hF6 hD (fun _ _ _ _ => rfl) ((ea_v rfl ea_nil').to fun H7 vs e7 hv => by
        obtain ⟨r, rfl, rfl⟩ := hv
        exact ⟨_, rfl, hLq.ex e7⟩)) fun vn H7 e7 pn => ?_
      have pn' : Dp K H7 vn (tagK (tagsL B L)).data := by rw [tagK_data]; exact pn
      have e07 := e06.trans e7
      have hdf7 := dnF6.ex e7
      have hdf0 : H df = none := hdf
      have nxt : ∀ {H8 H9 : Hp} {e : Addr}, StepN e H8 H9 → (∀ d kvs, d ≠ e → DN P w K H8 d kvs → DN P w K H9 d kvs) := fun st d kvs hne h => h.step st hne
      by_cases hb : tagsL B L ∈ Bg
      · -- begun before
        refine q_asgD (K := K) (d := .none) (ed_if (x := false) (ET.is (et_test (ed_niN (dnB6.ex e7) rfl (tagK_key _) (ed_var rfl pn'))) (by rw [setK_is, decide_eq_true hb]; rfl)) (fun h => nomatch h) fun _ => ed_non) fun vl H8 e8 pl => ?_
        refine q_putN (k := tagK (tagsL B L)) ((dnB6.ex e7).ex e8) rfl (tagK_key _) (ed_var rfl (pn'.ex e8)) (by rw [List.length_map]; omega) fun H9 st9 dn9 => ?_
        rw [setK_old hb] at dn9
        have e09 := st9.ex0 (e07.trans e8) hdb0
        refine s_ifD (x := false) (et_and' (y := false) (et_test (ed_op (ed_var rfl (dp_kl st9.kx.kl _ _ pl)) ed_non rd_notN)) fun h => nomatch h) (fun h => nomatch h) fun _ H10 e10 => ?_
        refine ⟨_, ?_, F, Wt, P1, Bg, lp, _, _, _, _, _, _, e09.trans e10, hlp0, hlpw, (nxt st9 _ _ hne1 ((dnF6.ex e7).ex e8)).ex e10, dn9.ex e10, (((lsW6.ex e7).ex e8).kx st9.kx).ex e10, (((lsP6.ex e7).ex e8).kx st9.kx).ex e10, wl.old hb fun t h => .inl h, by omega, hWF, by omega, rfl, rfl⟩
        rw [hnl]; omega
      · -- a new name
        refine q_asgR (σ := [some (.ref x), some (.ref df), some (.ref lw), some (.ref db), some (.ref lp), o5, o6, o7, o8, some (.ref q), some vn]) (H := H7) (j := 7) ?_
        refine (ET.is (et_test (K := K) (σ := [some (.ref x), some (.ref df), some (.ref lw), some (.ref db), some (.ref lp), o5, o6, o7, o8, some (.ref q), some vn]) (ed_niN (i := 3) (tx := tVar 10) (dnB6.ex e7) rfl (tagK_key _) (ed_var rfl pn'))) (show _ = true by rw [setK_is, decide_eq_false hb]; rfl)) H7 (Ex.refl _) _ fun H8 e8 => ?_
        have hF8 := hF6.ex (e7.trans e8)
        obtain ⟨dx, vb, vd, ve, dn, g1, g2⟩ := hF8.at
        refine ⟨_, rfl, x, dx, _, rfl, g1, rfl, _, rfl, x, _, B, R, L, rfl, hF8, hD, hLq.ex (e7.trans e8), hL.inn, fun a G H9 e9 _ h9 gr sat => ?_⟩
        show tSeq _ _ _ [some (.ref x), some (.ref df), some (.ref lw), some (.ref db), some (.ref lp), o5, o6, some (.ref a), o8, some (.ref q), some vn] H9
        have e89 := e8.trans e9
        refine q_putN (K := K) (k := tagK (tagsL B L)) ((dnB6.ex e7).ex e89) rfl (tagK_key _) (ed_var rfl (pn'.ex e89)) (by rw [List.length_map]; omega) fun H10 st10 dn10 => ?_
        rw [setK_put hb] at dn10
        have e010 := st10.ex0 (e07.trans e89) hdb0
        have h10 : H10 a = some (.dK (lotK G)) := st10.kx _ _ h9 (fun _ z => nomatch z)
        have dnF10 := nxt st10 _ _ hne1 ((dnF6.ex e7).ex e89)
        have lsW10 := ((lsW6.ex e7).ex e89).kx st10.kx
        have lsP10 := ((lsP6.ex e7).ex e89).kx st10.kx
        have hBm : ∀ t ∈ Bg ++ [tagsL B L], t ∈ Bg ∨ t = tagsL B L := fun t ht => (List.mem_append.mp ht).imp id fun h => List.mem_singleton.mp h
        have hBl : (Bg ++ [tagsL B L]).length = Bg.length + 1 := by rw [List.length_append]; rfl
        have hG10 : ∀ {H11}, Ex H10 H11 → LotV H11 (.ref a) G := fun e => LotV.of (e _ _ h10) gr.nodup
        have etg : ∀ {H11} {σ' : L2.St} {j : Nat}, Ex H10 H11 → σ'[0]? = some (some (.ref x)) → σ'[j]? = some (some (.ref a)) → ED K (tMeth T.FC "tags" (FSp P w K T.FC preL fun B R L => tagsD (tagsL B L)) [] E0 (tVar 0) (tCons (tVar j) tNil)) σ' H11 (tagK (tagsL B G)).data := fun {H11 σ' j} e h0 hj => by
          rw [tagK_data]
          exact ed_meth G h0 (hF.ex (e010.trans e)) hD (fun _ _ _ _ => rfl) ((ea_v hj ea_nil').to fun H12 vs e12 hv => by
            obtain ⟨r, rfl, rfl⟩ := hv
            exact ⟨_, rfl, (hG10 e).ex e12⟩)
        by_cases hG : tagsL B G ∈ F
        · refine s_ifD (x := false) (ET.is (et_and' (et_notN_ref rfl) fun _ => et_test (ed_niN dnF10 rfl (tagK_key _) (etg (Ex.refl _) rfl rfl))) (by rw [setK_is, decide_eq_true hG]; rfl)) (fun h => nomatch h) fun _ H11 e11 => ?_
          refine ⟨_, ?_, F, Wt, P1, Bg ++ [tagsL B L], lp, _, _, _, _, _, _, e010.trans e11, hlp0, hlpw, dnF10.ex e11, dn10.ex e11, lsW10.ex e11, lsP10.ex e11, wl.again gr hG hBm, by omega, hWF, by omega, rfl, rfl⟩
          rw [hnl]; omega
        · refine s_ifD (x := true) (ET.is (et_and' (et_notN_ref rfl) fun _ => et_test (ed_niN dnF10 rfl (tagK_key _) (etg (Ex.refl _) rfl rfl))) (by rw [setK_is, decide_eq_false hG]; rfl)) (fun _ H11 e11 => ?_) fun h => nomatch h
          have wl2 := wl.more gr sat hBm
          refine q_putN (K := K) (k := tagK (tagsL B G)) (dnF10.ex e11) rfl (tagK_key _) (etg e11 rfl rfl) (by rw [List.length_map]; omega) fun H12 st12 dn12 => ?_
          rw [setK_put hG] at dn12
          have e012 := st12.ex0 (e010.trans e11) hdf0
          have h12 : H12 a = some (.dK (lotK G)) := st12.kx _ _ (e11 _ _ h10) (fun _ z => nomatch z)
          have hF2 := lots_few hD (setK_nodup dn12.nodup) wl2.fmx
          have hFl : (F ++ [tagsL B G]).length = F.length + 1 := by rw [List.length_append]; rfl
          have hWl : (Wt ++ [G]).length = Wt.length + 1 := by rw [List.length_append]; rfl
          rw [hFl] at hF2
          refine q_appL (K := K) ((lsW10.ex e11).kx st12.kx) rfl rfl h12 (by omega) fun H13 st13 lsW13 => ?_
          have e013 := st13.ex0 e012 hlw0
          have dnF13 := st13.dn dn12
          refine s_ifD (x := false) (ET.is (et_test (K := K) (ed_op (ed_lenN dnF13 rfl) ed_int rd_b)) ?_) (fun h => nomatch h) fun _ H14 e14 => ?_
          · rw [List.length_map]
            exact decide_eq_false (by omega)
          · refine ⟨_, ?_, F ++ [tagsL B G], Wt ++ [G], P1, Bg ++ [tagsL B L], lp, _, _, _, _, _, _, e013.trans e14, hlp0, hlpw, dnF13.ex e14, (st13.dn (nxt st12 _ _ (Ne.symm hne1) (dn10.ex e11))).ex e14, lsW13.ex e14, (((lsP10.ex e11).kx st12.kx).step st13 hlpw).ex e14, wl2, by omega, by omega, by omega, rfl, rfl⟩
            rw [hFl, hWl, hnl]; omega
  · have hPs : Ps = [] := by cases Ps with
      | nil => rfl
      | cons _ _ => simp at hx
    have hWs : Wt = [] := by cases Wt with
      | nil => rfl
      | cons _ _ => subst hPs; simp at hx
    subst hPs hWs
    refine ⟨_, rfl, df, setK F, rfl, dnF.ex e4, fun l ys hl hys => ?_⟩
    refine k l ys F _ ((e.trans e4).trans (Ex.new hl)) (fresh_back (e.trans e4) hl) upd_same ?_ (wl.done hFn)
    have : ((setK F).map fun p => p.1.data) = F.map tagsD := by
      rw [List.map_map]
      exact List.map_congr_left fun t _ => tagK_data t
    rw [this] at hys
    exact hys.ex (Ex.new hl)
end
end BB
/-! G3: sorted(xs, key=lambda x: ..): a lambda of one parameter, called by the sort. -/
namespace BB
open PySem L2 Evl PyProof.Rows LamX
open PySem.W (kla_obj kla_fn KeyedOut AllAlike Sortable dataLe)
section
variable {X : Cx} {pins : List (Addr × Obj)} {σ : L2.St} {H : Hp} {s : Shared}
/-- a lambda without captured names, called -/
theorem lam_call {A : Around} {N ps : List Str} {q : Str} {params : Arguments} {body : Expr} {scope : Scope} {pm ctv : Value} {f c' : Addr} {k : Nat} {us : List Value} {vs : List V} {tb : TE} {Qv : VK} (hlim : s.heap.NoLimit) (e0 : Env0 X.prog X.w X.K X.mg X.base A X.stack s H) (hr : Room (k + 1) A)
    (hf : s.heap.get? f = some (kla_obj "<lambda>" q params body scope [] pm c' ctv)) (hc : H c' = some (CodeO c' q)) (S : FnScope N ps scope)
    (hbind : bindArgs (kla_fn "<lambda>" q params body scope [] pm (.ref c') ctv) ⟨us, []⟩ = pure (ps.zip us)) (r : Vals vs us) (hl : vs.length = ps.length)
    (hbody : ∀ (A : Around) (outer : List Env) (s : Shared) (H : Hp) (E : XK), Room k (A.deeper (envOfC q scope s.heap.objs.size f (.ref c'))) → PE (cxOf CX0 X.prog X.w X.K X.mg X.base N q scope f (.ref c') A outer s H E).nox body tb)
    (h : tb (L2.start N vs) H Qv) : codeAny (model X.prog X.w) A (.call (.ref f) ⟨us, []⟩) (CR CX0 X.stack X.prog X.w H s Qv (fun _ _ _ => False)) s := by
  obtain ⟨⟨oc, cs, t, hoc, hdc, hvc⟩, _, _⟩ := e0.hok c' _ hc
  refine PySem.W.kla_callFunE hr.depth hf rfl S.co S.gen rfl ⟨c', oc, cs, t, rfl, hoc, hdc, hvc⟩ ?_
  rw [hbind]
  have hkind : ∀ y ∈ ps.zip us, scope.names.lookup y.1 = some .local ∨ (scope.names.lookup y.1 = some .cell ∧ ((cellsFrom (s.heap.objs.size + 1) scope.names []).lookup y.1).isSome = true) := fun ⟨n, v⟩ hy => by
    rcases S.par n (List.of_mem_zip hy).1 with q | q
    · exact .inl q
    · exact .inr ⟨q, PySem.W.cellsFrom_some _ _ _ (.inl q)⟩
  refine wpAny_pure (wpAny_newFunctionEnv_cells S.kind hkind fun env he s1 x => ?_)
  subst he
  refine ⟨hlim.keeps x.toInCall.keep, ?_⟩
  have J : Inv (cxOf CX0 X.prog X.w X.K X.mg X.base N q scope f (.ref c') A X.stack s H (fun _ _ _ => False)) [] (L2.start N vs) H s1 := inv_start S hr.hd e0 hl r x
  show codeAny _ _ (.expr body (envOfC q scope s.heap.objs.size f (.ref c'))) _ _
  refine PySem.W.kla_codeExpr (wpAny_mono ((hbody A X.stack s H (fun _ _ _ => False) (hr.deeper _)).nox.run [] s1 (L2.start N vs) H Qv J h) (fun v s' hq => ?_) fun e s' hq => hq)
  obtain ⟨w', H', J', rv, q⟩ := hq
  exact ⟨w', H', J'.os, J'.bare, J'.base, J'.hok, rv, q⟩
/-! ### the sort's loop over the keys -/
/-- a call that gives the key d, leaving what is known -/
def KeyInv (X : Cx) (pins : List (Addr × Obj)) (σ : L2.St) (H : Hp) (d : PyData) (u : Value) (s' : Shared) : Prop := ∃ kv H', Inv X pins σ H' s' ∧ RelV kv u ∧ Ex H H' ∧ Dp X.K H' kv d
theorem each_of : ∀ {us : List Value} {ds : List PyData} {as : List Addr} {h : Heap}, ReadsAll h us ds as → PySem.W.EachIs (fun v d => ∃ as, Reads h v d as) us ds := fun {us ds as h} r => by
  have := PySem.W.readsAll_each (h := h) (id : PyData → PyData) (vs := us) (bs := ds) (as := as) (by rw [List.map_id]; exact r)
  exact this
theorem each_reads {H : Hp} (I : Inv X pins σ H s) {us : List Value} {kvs : List V} {ds : List PyData} (r : Vals kvs us) (p : DpAll X.K H kvs ds) : PySem.W.EachIs (fun v d => ∃ as, Reads s.heap v d as) us ds := by
  obtain ⟨as, h⟩ := Dp.readsAll I ds kvs us p r
  exact each_of h
/-- sorted, at the end: the list at a is the sorted one -/
theorem inv_sorted {a kS : Addr} {h3 : Heap} {tk c : Nat} {out : List Value} {ys : List V} (I : Inv X pins σ H s) (fa : FpOk X pins H a) (fk : FpOk X pins H kS) (kp : ∀ b o, b ≠ a → b ≠ kS → s.heap.get? b = some o → h3.get? b = some o)
    (ha : h3.get? a = some (seqObj "list" out.toArray c)) (r : Vals ys out) (hz : ys.length ≤ sizeLine) : Inv X pins σ (upd H a (.lst ys)) { s with heap := h3, toks := tk } := by
  have hne : ∀ {b o}, H b = some o → b ≠ a ∧ b ≠ kS := fun {b o} e => ⟨fun z => (by rw [z, fa.1] at e; cases e), fun z => (by rw [z, fk.1] at e; cases e)⟩
  refine I.call' (H' := upd H a (.lst ys)) (s' := { s with heap := h3, toks := tk }) (ch := [a, kS]) rfl ⟨fun b o q n hf hx => ?_, fun b o q n hf hx => ?_, fun b o q n hx => ?_, fun b o q hx => ?_, fun b xs e => ?_, fun b o u e => ?_, fun b ps e => ?_⟩ (fun b o e => ?_) I.bare (fun b hb => ?_)
  · exact kp b o (fun z => hx (by simp [z])) (fun z => hx (by simp [z])) q
  · exact ⟨o.slots, kp b o (fun z => hx (by simp [z])) (fun z => hx (by simp [z])) q⟩
  · rw [upd_ne (fun z => hx (by simp [z]))]; exact n
  · exact ⟨o, kp b o (fun z => hx (by simp [z])) (fun z => hx (by simp [z])) q⟩
  · rw [upd_ne (hne e).1]; exact e
  · rw [upd_ne (hne e).1]; exact e
  · exact ⟨#[], by rw [upd_ne (hne e).1, e]; simp⟩
  · by_cases hb : b = a
    · subst hb
      rw [upd_same] at e; cases e
      exact ⟨hz, out, c, r, ha⟩
    · rw [upd_ne hb] at e
      refine (I.hok b o e).stay (fun b' u hb' q => ?_) (fun b' q => by rw [upd_ne (hne q).1]; exact q) fun b' xs q => by rw [upd_ne (hne q).1]; exact q
      rcases hb' with z | z
      · rw [z]; rw [z] at q; exact kp b u (hne e).1 (hne e).2 q
      · exact kp b' u (hne z).1 (hne z).2 q
  · rcases List.mem_cons.mp hb with z | hb
    · rw [z]; exact ⟨fa.2.2.2.1, fa.2.1, fa.2.2.2.2.1, fa.2.2.2.2.2⟩
    · rw [List.mem_singleton.mp hb]; exact ⟨fk.2.2.2.1, fk.2.1, fk.2.2.2.2.1, fk.2.2.2.2.2⟩
theorem sort_rest {A : Around} {a kS : Addr} {f : Value} {e1 : Nat} {vs : List Value} {kz : List PyData} {P : PySem.Fin → Shared → Prop} {E : Value → Shared → Prop} (I : Inv X pins σ H s) (fa : FpOk X pins H a) (fk : FpOk X pins H kS) (hka : kS ≠ a) (nk : s.heap.get? kS = some (seqObj "list" #[] 0)) (na : s.heap.get? a = some (seqObj "list" #[] e1))
    (hlen : kz.length = vs.length) (hZ : vs.length ≤ sizeLine) (hal : AllAlike kz) (hsk : Sortable kz) (hu : ∀ d, d ∈ kz → A.units + d.depth < cLine)
    (turn : ∀ (pins' : List (Addr × Obj)) (i : Nat) (v : Value) (k : PyData) (H1 : Hp) (s1 : Shared), (∀ p ∈ pins, p ∈ pins') → vs[i]? = some v → kz[i]? = some k → Ex H H1 → Inv X pins' σ H1 s1 → wpAny (model X.prog X.w) A (call f [v]) (KeyInv X pins' σ H1 k) (fun _ _ => False) s1)
    (h : ∀ out H1 s1, Ex H H1 → H1 a = none → KeyedOut false kz vs out → (∀ ys : List V, Vals ys out → ys.length ≤ sizeLine → Inv X pins σ (upd H1 a (.lst ys)) s1) → P (.done (.ret .none)) s1) :
    wpAny (model X.prog X.w) A (ksk_rest a f false vs.toArray e1 (.ref kS)) P E s := by
  unfold ksk_rest
  refine wpAny_bind (wpAny_rule ?_)
  first
    | rw [List.forIn_toArray]
    | (rw [← Array.forIn_toList]; simp only [List.toList_toArray])
    | rw [← Array.forIn_toList]
  refine wpAny_bind (ksk_fold (fun i s' => ∃ H1 kA e kvs, Inv X pins σ H1 s' ∧ Ex H H1 ∧ H1 a = none ∧ H1 kS = none ∧ s'.heap.get? kS = some (seqObj "list" kA e) ∧ s'.heap.get? a = some (seqObj "list" #[] e1) ∧ Vals kvs kA.toList ∧ DpAll X.K H1 kvs (kz.take i)) vs 0 s
    ⟨H, #[], 0, [], I, Ex.refl _, fa.1, fk.1, nk, na, .nil, by rw [List.take_zero]; exact .nil⟩ ?step ?done)
  case step =>
    rintro j x s' hx ⟨H1, kA, e, kvs, I1, eH, ha1, hk1, nk', na', hv, hd⟩
    simp only [Nat.zero_add] at hd ⊢
    have hj : j < vs.length := (List.getElem?_eq_some_iff.mp hx).1
    obtain ⟨k, hkj⟩ : ∃ k, kz[j]? = some k := ⟨_, List.getElem?_eq_getElem (by omega)⟩
    have fp : ∀ b ∈ [kS, a], FpOk X pins H1 b := fun b hb => by
      rcases List.mem_cons.mp hb with z | hb
      · rw [z]; exact ⟨hk1, fk.2⟩
      · rw [List.mem_singleton.mp hb]; exact ⟨ha1, fa.2⟩
    have I1' := I1.pinned (fp := [kS, a]) fp (fun b hb => by
      rcases List.mem_cons.mp hb with z | hb
      · rw [z]; exact ⟨_, nk', fun v q => nomatch q⟩
      · rw [List.mem_singleton.mp hb]; exact ⟨_, na', fun v q => nomatch q⟩)
    refine wpAny_bind (wpAny_attempt (wpAny_mono (turn _ j x k H1 s' (fun p hp => List.mem_append_left _ hp) hx hkj eH I1') (fun u s2 hq => ?_) fun _ _ hF => hF.elim))
    obtain ⟨kv, H2, I2, ru, e2, pk⟩ := hq
    try dsimp only
    have pk1 := I2.pin (kS, _) (List.mem_append_right _ (List.mem_append_right _ (mem_pinsAt (by simp) nk')))
    have pa1 := I2.pin (a, _) (List.mem_append_right _ (List.mem_append_right _ (mem_pinsAt (by simp) na')))
    have nk2 : s2.heap.get? kS = some (seqObj "list" kA e) := pk1.1
    have na2 : s2.heap.get? a = some (seqObj "list" #[] e1) := pa1.1
    have I3 : Inv X pins σ H2 s2 := I2.unpinned
    have hsz : kA.size ≤ vs.length := by
      have h1 := Paired.length hv
      have h2 := hd.length
      rw [List.length_take] at h2
      rw [← Array.length_toList]
      omega
    have s1 := Heap.SameBut.update s2.heap kS (Obj.mapSeq (·.push u))
    obtain ⟨c2, hc2⟩ : ∃ c2, (s2.heap.update kS (Obj.mapSeq (·.push u))).get? kS = some (seqObj "list" (kA.push u) c2) := ⟨_, get?_update_seq nk2 (·.push u)⟩
    refine wpAny_bind (listUpdate_at nk2 rfl ?_ (Nat.le_trans hsz hZ) (Nat.le_trans (Nat.le_of_eq (Array.size_push ..)) (Nat.succ_le_succ (Nat.le_trans hsz hZ))))
    refine wpAny_pure ⟨rfl, H2, kA.push u, c2, kvs ++ [kv], ?_, eH.trans e2, pa1.2.1, pk1.2.1, hc2, (s1.2 a hka.symm).trans na2, ?_, ?_⟩
    · exact I3.turned (it := kS) (t' := s2.toks) (fun b o hb q => (s1.2 b hb).trans q) pk1.2.1 fk.2.1 fk.2.2.2.1 fk.2.2.2.2.1 fk.2.2.2.2.2
    · have : (kA.push u).toList = kA.toList ++ [u] := by simp
      rw [this]
      exact Paired.snoc hv ru
    · have : kz.take (j + 1) = kz.take j ++ [k] := take_succ_of hkj
      rw [this]
      exact (hd.ex e2).app (.cons pk .nil)
  case done =>
    rintro s' ⟨H1, kA, e, kvs, I1, eH, ha1, hk1, nk', na', hv, hd⟩
    have e3 : kz.take (0 + vs.length) = kz := List.take_of_length_le (by omega)
    rw [e3] at hd
    have hk' := each_reads I1 hv hd
    have hsz : kA.size = vs.length := by
      have h1 := hk'.length
      rw [Array.length_toList] at h1
      omega
    try dsimp only
    refine wpAny_bind (listItems_at nk' rfl ?_)
    refine PySem.W.keyH_end (κ := PySem.W.dataKind s'.heap kz) (h₁ := PySem.W.hideAll s'.heap [kS]) (fun b o _ q => PySem.W.of_hideAll _ q) (PySem.W.hideAll_none _ (by simp)) nk' na' hka (PySem.W.SortsAt.data (s := s') hk' hal hsk hu) hsz hZ fun h3 tk3 c k3 n3 => ?_
    refine h _ H1 _ eH ha1 ⟨s'.heap, kA.toList, hal, rfl, hk'⟩ fun ys r hz => ?_
    exact inv_sorted I1 ⟨ha1, fa.2⟩ ⟨hk1, fk.2⟩ (fun b o h1 h2 q => k3 b o h1 (PySem.W.hideAll_get _ q (by simpa using h2))) n3 r hz
theorem sorted_keyI {l q : Addr} {vs : List Value} {kz : List PyData} {Q : Value → Shared → Prop} {E : Value → Shared → Prop} (I : Inv X pins σ H s) (hl : s.heap.IsList l vs.toArray)
    (hlen : kz.length = vs.length) (hZ : vs.length ≤ sizeLine) (hal : AllAlike kz) (hsk : Sortable kz) (hu : ∀ d, d ∈ kz → X.A.units + 2 + d.depth < cLine)
    (turn : ∀ (pins' : List (Addr × Obj)) (i : Nat) (v : Value) (k : PyData) (H1 : Hp) (s1 : Shared), (∀ p ∈ pins, p ∈ pins') → vs[i]? = some v → kz[i]? = some k → Ex H H1 → Inv X pins' σ H1 s1 → wpAny (model X.prog X.w) X.A.in1.in1 (call (.ref q) [v]) (KeyInv X pins' σ H1 k) (fun _ _ => False) s1)
    (h : ∀ out H1 s1 a, Ex H H1 → H a = none → H1 a = none → KeyedOut false kz vs out → (∀ ys : List V, Vals ys out → ys.length ≤ sizeLine → Inv X pins σ (upd H1 a (.lst ys)) s1) → Q (.ref a) s1) :
    wpAny (model X.prog X.w) X.A (call (.builtin "sorted") [.ref l] [(Str.ofString "key", .ref q)]) Q E s := by
  refine PySem.W.sorted_of_sort hl hZ (ksk_s1 _ _) (fun x => ksk_l1 _ _) fun E' => ?_
  rw [ksk_t1]
  have ho : (PySem.W.copyHeap s.heap vs).get? (s.heap.objs.size + 1) = some (seqObj "list" vs.toArray 0) := PySem.W.copyHeap_at s.heap vs
  generalize hc : PySem.W.copyHeap s.heap vs = hC at ho
  have kpC : ∀ b o, s.heap.get? b = some o → hC.get? b = some o := fun b o e => by rw [← hc]; exact PySem.W.copyHeap_old e
  generalize ha0 : s.heap.objs.size + 1 = a at ho
  have haS : s.heap.objs.size ≤ a := by omega
  have ha : a < hC.objs.size := Heap.lt_size ho
  have hnA : ∀ b o, s.heap.get? b = some o → b ≠ a := fun b o e => Nat.ne_of_lt (Nat.lt_of_lt_of_le (Heap.lt_size e) haS)
  obtain ⟨e1, ho1⟩ : ∃ e1, (hC.update a (Obj.mapSeq fun _ => (#[] : Array Value))).get? a = some (seqObj "list" #[] e1) := ⟨_, get?_update_seq ho fun _ => #[]⟩
  have hkS : ((hC.update a (Obj.mapSeq fun _ => (#[] : Array Value))).push (seqObj "tuple" vs.toArray 0)).objs.size = hC.objs.size + 1 := by rw [size_push', Heap.size_update]
  unfold ksk_tree
  refine wpAny_bind (listItems_at ho rfl ?_)
  refine wpAny_bind (listUpdate_at ho rfl ?_ (by rw [List.size_toArray]; exact hZ) (Nat.zero_le _))
  refine wpAny_bind (seqEpoch_at ho1 rfl ?_)
  refine wpAny_bind (wpAny_newTuple ?_ (by show vs.length ≤ _; exact hZ))
  refine wpAny_bind (wpAny_newList ?_ (Nat.zero_le _))
  refine wpAny_holding ?_
  have kp : ∀ b o, s.heap.get? b = some o → (PySem.W.sortingHeap hC a vs).get? b = some o := fun b o e => PySem.W.sortingHeap_old (hnA b o e) (kpC b o e)
  have I2 : Inv X pins σ H { s with heap := PySem.W.sortingHeap hC a vs } := I.kept (t' := s.toks) kp
  have hnH : ∀ b, s.heap.objs.size ≤ b → H b = none := fun b hb => I.hok.fresh hb
  have hCs : s.heap.objs.size ≤ hC.objs.size := by omega
  refine sort_rest (A := X.A.in1.in1) (kz := kz) (s := { s with heap := PySem.W.sortingHeap hC a vs }) (kS := ((hC.update a (Obj.mapSeq fun _ => (#[] : Array Value))).push (seqObj "tuple" vs.toArray 0)).objs.size) I2
    (I.fpOk haS (hnH a haS)) (I.fpOk (by rw [hkS]; omega) (hnH _ (by rw [hkS]; omega))) (by rw [hkS]; exact Nat.ne_of_gt (Nat.lt_succ_of_lt ha)) (Heap.get?_push_size _ rfl) (Heap.get?_push_of_some _ (Heap.get?_push_of_some _ ho1)) hlen hZ hal hsk (fun d hd => by have := hu d hd; show X.A.units + 1 + 1 + d.depth < cLine; omega) turn fun out H1 s1 eH ha1 ko hI => ⟨rfl, ?_⟩
  exact h out H1 s1 a eH (hnH a haS) ha1 ko hI
/-! ### as a rule -/
/-- sorted(xs, key=lambda x: ..): the items enc b of xs, their keys key b -/
def tSortLam {β : Type} (T : List (Addr × Str)) (K : PySem.W.Frag) (N : List Str) (ta tb : TE) : TE := fun σ H Q => ta σ H fun x H1 => Tabs T H1 ∧ ∃ (bs : List β) (enc key : β → PyData), Dp K H1 x (.list (bs.map enc)) ∧ stayAll (bs.map enc) = true ∧ AllAlike (bs.map key) ∧ Sortable (bs.map key) ∧ bs.length ≤ 100000 ∧ (∀ b ∈ bs, (key b).depth ≤ 60) ∧
  (∀ b ∈ bs, ∀ v H2 H3, ExtN H1 H2 → Ex H2 H3 → Dp K H3 v (enc b) → ED K tb (L2.start N [v]) H3 (key b)) ∧
  ∀ p H2, ExtN H1 H2 → Tabs T H2 → Dp K H2 (.ref p) (.list ((bs.mergeSort (dataLe false key)).map enc)) → Q (.ref p) H2
theorem ExtN.of_ex {H H' : Hp} (e : Ex H H') : ExtN H H' := ExtN.of e
theorem ExtN.kl {H H' : Hp} (e : ExtN H H') : KL H H' := by
  have rd : ∀ a u, (∀ ps, u ≠ .tbl ps) → Rd H a u → Rd H' a u := fun a u hn h => h.elim (fun h => .inl (e a _ h hn)) fun ⟨o, h⟩ => .inr ⟨o, e a _ h fun ps z => nomatch z⟩
  exact ⟨fun a xs => rd a _ (fun ps z => nomatch z), fun a xs => rd a _ (fun ps z => nomatch z)⟩
theorem each_vals : ∀ {us : List Value} {vs : List V} {ds : List PyData} {K : PySem.W.Frag} {H : Hp}, Vals vs us → DpAll K H vs ds → PySem.W.EachIs (fun u d => ∃ v, RelV v u ∧ Dp K H v d) us ds
  | _, _, _, _, _, .nil, .nil => .nil
  | _, _, _, _, _, .cons r t, .cons p q => .cons ⟨_, r, p⟩ (each_vals t q)
theorem vals_each : ∀ {us : List Value} {ds : List PyData} {K : PySem.W.Frag} {H : Hp}, PySem.W.EachIs (fun u d => ∃ v, RelV v u ∧ Dp K H v d) us ds → ∃ vs, Vals vs us ∧ DpAll K H vs ds
  | _, _, _, _, .nil => ⟨[], .nil, .nil⟩
  | _, _, _, _, .cons ⟨v, r, p⟩ t => let ⟨vs, h1, h2⟩ := vals_each t; ⟨v :: vs, .cons r h1, .cons p h2⟩
theorem each_enc {β : Type} {R : Value → PyData → Prop} (enc : β → PyData) : ∀ {us : List Value} {bs : List β}, PySem.W.EachIs R us (bs.map enc) → PySem.W.EachIs (fun u b => R u (enc b)) us bs
  | _, [], .nil => .nil
  | _, _ :: _, .cons h t => .cons h (each_enc enc t)
theorem pe_sortLam {β : Type} {T : List (Addr × Str)} {c P : Addr} {N ps : List Str} {y : Str} {k : Nat} {e : Expr} {kpos p lpos pos : Pos} {params : Arguments} {body : Expr} {scope : Scope} {ta tb : TE} {kws : List Keyword} (hg : Gl X "sorted") (hm : X.mg "sorted" = none) (ha : PE X e ta)
    (TB : TabB X.base X.mg c P) (hcode : X.env.code = .ref c) (hmT : (P, X.env.qual ++ "<lambda>") ∈ T) (hu : ∀ p ∈ T, p.1 = P → p.2 = X.env.qual ++ "<lambda>") (hr : Room (k + 3) X.A) (S : FnScope N ps scope) (hps : ps = [y])
    (hcl : cloFrom X.env.cells scope.names [] = []) (hdef : defaultsOf params X.env = ([], []))
    (hbs : bootBuiltins "sorted" = some (.builtin "sorted")) (hbind : ∀ (q : Str) (pm cv ctv v : Value), bindArgs (kla_fn "<lambda>" q params body scope [] pm cv ctv) ⟨[v], []⟩ = pure [(y, v)])
    (hbody : ∀ (A : Around) (outer : List Env) (s : Shared) (H : Hp) (E : XK) (f c' : Addr), Room k (A.deeper (envOfC (X.env.qual ++ "<lambda>") scope s.heap.objs.size f (.ref c'))) → PE (cxOf CX0 X.prog X.w X.K X.mg X.base N (X.env.qual ++ "<lambda>") scope f (.ref c') A outer s H E).nox body tb)
    (hk : kws = [⟨some "key", .Lambda params body scope lpos, kpos⟩])
    (hst1 : starEach [e] X.env = (false, eval e X.env) :: starEach [] X.env := by rfl) (he : backTo pos (starEach (e :: []) X.env) = (false, eval e X.env) :: backTo pos (starEach [] X.env) := by rfl) (hpl : (backTo pos (starEach (e :: []) X.env)).any (·.1) = false := by rfl)
    (hall : (backToKw pos (keywordEach kws X.env)).all (·.1.isSome) = true := by rfl) (hnone : (backToKw pos (keywordEach kws X.env)).any (·.1.isNone) = false := by rfl) (hks : (backToKw pos (keywordEach kws X.env)).filterMap (·.1) = [Str.ofString "key"] := by rfl) :
    PE X (.Call (.Name "sorted" p) [e] kws pos) (tSortLam (β := β) T X.K N ta tb) := by
  refine ⟨fun pins s σ H Q I h => ?_⟩
  subst hk hps
  refine wpAny_Call_Name_kw (ld_blt I hg hm hbs ?_ (by decide) (by decide))
  let Rest : V → Hp → Prop := fun x H1 => Tabs T H1 ∧ ∃ (bs : List β) (enc key : β → PyData), Dp X.K H1 x (.list (bs.map enc)) ∧ stayAll (bs.map enc) = true ∧ AllAlike (bs.map key) ∧ Sortable (bs.map key) ∧ bs.length ≤ 100000 ∧ (∀ b ∈ bs, (key b).depth ≤ 60) ∧
    (∀ b ∈ bs, ∀ v H2 H3, ExtN H1 H2 → Ex H2 H3 → Dp X.K H3 v (enc b) → ED X.K tb (L2.start N [v]) H3 (key b)) ∧
    ∀ p H2, ExtN H1 H2 → Tabs T H2 → Dp X.K H2 (.ref p) (.list ((bs.mergeSort (dataLe false key)).map enc)) → Q (.ref p) H2
  refine PyProof.Rows.callWith_kw (thn ((pa_cons ha pa_nil hst1).run pos pins s σ H (fun vs H1 => match vs with | [x] => Rest x H1 | _ => False) I h) fun us s1 ⟨vs, H1, I1, r1, q1⟩ => ?_) he hpl hall hnone
  rw [hks]
  match vs, q1 with
  | [x], ⟨T1, bs, enc, key, pd, hst, hal, hsk, hlen, hdep, hcall, hQ⟩ =>
    obtain ⟨u, rfl, ru⟩ := vals1 r1
    show wpAny _ _ (evalAll ((do let v ← eval (.Lambda params body scope lpos) X.env; standAt pos; pure v) :: (backToKw pos (keywordEach [] X.env)).map (·.2))) _ _ s1
    have hfree : ∀ y ∈ scope.names, y.2 = .free → ∃ c, X.env.cells.lookup y.1 = some c := fun z hz e => absurd e (S.nofree z hz)
    refine wpAny_evalAll_cons (wpAny_bind (lam_make2 I1 TB hcode hmT hu T1 hdef hfree fun f c' pm ctv H2 s2 I2 eN T2 hf hfn hfr hco => wpAny_bind (wpAny_standAt (wpAny_pure (wpAny_evalAll_nil ?_)))))
    rw [hcl] at hf
    obtain ⟨l, xs, rfl, hL, hd⟩ := dp_lst (dp_kl (ExtN.kl eN) _ _ pd)
    obtain rfl : u = Value.ref l := ru
    obtain ⟨its, rv, pl, hz⟩ := I2.list hL
    have hxl := hd.length
    have hvl := Paired.length rv
    rw [List.length_map] at hxl
    show wpAny _ _ (call (.builtin "sorted") [.ref l] [(Str.ofString "key", .ref f)]) _ _ s2
    have eE : PySem.W.EachIs (fun u d => ∃ v, RelV v u ∧ Dp X.K H2 v d) its (bs.map enc) := each_vals rv hd
    have hfl : f ≠ X.env.locals := fun z => by
      obtain ⟨m, ⟨o, es, ep, ho, hdd, _⟩, _⟩ := I2.loc
      rw [← z, hf] at ho
      cases ho
      cases hdd
    have hfx : f ∉ X.fs := fun hb => hfr (by
      have hb : f ∈ X.outer.filterMap (·.frame) := hb
      show f ∈ X.stack.filterMap (·.frame)
      rcases I2.ok.stk with e | ⟨e, _⟩
      · rw [e]; exact hb
      · rw [e]
        obtain ⟨a, h1, h2⟩ := List.mem_filterMap.mp hb
        exact List.mem_filterMap.mpr ⟨a, List.mem_cons_of_mem _ h1, h2⟩)
    have I2p : Inv X (pins ++ [(f, kla_obj "<lambda>" (X.env.qual ++ "<lambda>") params body scope [] pm c' ctv)]) σ H2 s2 := I2.pins_of fun p hp => (List.mem_append.mp hp).elim (fun z => I2.pin p (List.mem_append_right _ z)) fun z => by
      rw [List.mem_singleton.mp z]
      exact ⟨hf, hfn, hfl, hfx, (fun v q => nomatch q)⟩
    refine sorted_keyI (kz := bs.map key) I2p pl.isList (by rw [List.length_map]; omega) (by omega) hal hsk (fun d hd => ?_) (fun pins' i v kd H3 s3 hpp hv hkd e3 I3 => ?_) fun out H3 s3 a e3 ha2 ha3 ko hI => ?_
    · obtain ⟨b, hb, rfl⟩ := List.mem_map.mp hd
      have := hdep b hb
      have := hr.un
      omega
    · rw [List.getElem?_map] at hkd
      cases hb : bs[i]? with
      | none => rw [hb] at hkd; cases hkd
      | some b =>
        rw [hb] at hkd; cases hkd
        obtain ⟨kv, hkv, rkv⟩ : ∃ kv, xs[i]? = some kv ∧ RelV kv v := by
          have hi : i < xs.length := by have := (List.getElem?_eq_some_iff.mp hv).1; omega
          obtain ⟨u', hu', ru'⟩ := rv.get (List.getElem?_eq_getElem hi)
          rw [hv] at hu'; cases hu'
          exact ⟨_, List.getElem?_eq_getElem hi, ru'⟩
        obtain ⟨db, hdb, pkv⟩ := hd.get hkv
        rw [List.getElem?_map, hb] at hdb
        cases hdb
        have hbm := List.mem_of_getElem? hb
        have hfn3 : s3.heap.get? f = some (kla_obj "<lambda>" (X.env.qual ++ "<lambda>") params body scope [] pm c' ctv) := (I3.pin (f, _) (List.mem_append_right _ (hpp _ (List.mem_append_right _ (List.mem_singleton.mpr rfl))))).1
        have rc := lam_call (A := X.A.in1.in1) (us := [v]) (vs := [kv]) I3.nolimit I3.env0.in1.in1 (k := k) ⟨hr.hd, by have := hr.dp; show X.A.depth + 3 * (k + 1) + 5 < _; omega, by have := hr.un; show X.A.units + 1 + 1 + 16 * (k + 1) + 200 < _; omega⟩ hfn3 (e3 _ _ hco) S (hbind _ _ _ _ _) (.cons rkv .nil) rfl (fun A outer s H E hr2 => hbody A outer s H E f c' hr2)
          (hcall b hbm kv H2 H3 eN e3 (pkv.ex e3) H3 (Ex.refl _) (fun kv' H4 => Ex H3 H4 ∧ Dp X.K H4 kv' (key b)) fun kv' H4 e4 p4 => ⟨e4, p4⟩)
        refine wpAny_call (codeAny_mono rc fun r s4 hq => ?_)
        cases r with
        | error e => exact (show False from hq).elim
        | ok fl =>
          cases fl with
          | ret u =>
            obtain ⟨kv', H4, I4, ru, e4, p4⟩ := I3.after hq
            exact ⟨kv', H4, I4, ru, e4, p4⟩
          | next => exact False.elim hq
          | brk => exact False.elim hq
          | cont => exact False.elim hq
    · have hs := PySem.W.keyedOut_each key ko (each_enc enc eE)
      obtain ⟨ys, r, pys⟩ := vals_each (PySem.W.each_map (R := fun u d => ∃ v, RelV v u ∧ Dp X.K H2 v d) enc hs)
      have hyl : ys.length ≤ sizeLine := by
        have := pys.length
        rw [List.length_map, List.length_mergeSort] at this
        rw [this]; exact sz_of hlen
      have e4 : Ex H2 (upd H3 a (.lst ys)) := e3.trans (Ex.new ha3)
      exact ⟨.ref a, _, (hI ys r hyl).unpinned, rfl, hQ a _ (LamX.ExtN.trans eN (LamX.ExtN.of e4)) (T2.ext e4) (.lst (.inl (.inl upd_same)) (pys.ex e4))⟩
end
end BB
/-! D13: in_order. -/
namespace BB
open PySem L2 Evl LamX
open PySem.W (AllAlike Sortable dataLe)
/-- a def whose code object stands at c -/
structure FunC (K : PySem.W.Frag) (x qual : Str) (st : Stmt) (f : Addr) (fd : FuncData) (c : Addr) : Prop where
  ex : ∃ (oc : Value) (od : Option Addr) (kV doc pm : Value) (an : Option Addr) (ct : Value) (osl : Array (Option Value)),
    fd = PySem.W.fnOf x qual (defArgs st) (defBody st) (defScope st) .none kV doc pm an (.ref c) ct ∧ K.lookup f = some ⟨oc, od, .func fd, osl⟩ ∧ PySem.W.codeIn K (.ref c) qual = true
theorem FunC.ok {P : Program} {w : World} {K : PySem.W.Frag} {mg : Str → Option Value} {base : Heap} {x qual : Str} {st : Stmt} {f c : Addr} {fd : FuncData} {N ps : List Str} {k : Nat} {sp : Sp} (F : FunC K x qual st f fd c) (S : FnScope N ps (defScope st)) (len : ∀ vs H Q E, sp vs H Q E → vs.length = ps.length)
    (hbody : ∀ (A : Around) (outer : List Env) (s : Shared) (H : Hp) (vs : List V) (Q : VK) (E : XK), Room k (A.deeper (PyProof.Rows.envOfC qual (defScope st) s.heap.objs.size f (.ref c))) → sp vs H Q E →
      ∃ t, PSs (cxOf CX0 P w K mg base N qual (defScope st) f (.ref c) A outer s H E).nox (defBody st) t ∧ t { nx := fun _ H' => Q .non H', rt := Q } (L2.start N vs) H) : FnOk P w K mg base CX0 (k + 1) f fd ps sp := by
  obtain ⟨oc, od, kV, doc, pm, an, ct, osl, rfl, lk, hcd⟩ := F.ex
  refine fn_of lk hcd S len fun A outer s H vs Q E hr hsp => ?_
  obtain ⟨t, h, q⟩ := hbody A outer s H vs Q E hr hsp
  exact ⟨t, h.nox, q⟩
/-- the two defs that hold lambdas: their code objects, their tables -/
structure TabT (K : PySem.W.Frag) (mg : Str → Option Value) (base : Heap) (T : Txt K mg) where
  cO : Addr
  PO : Addr
  cB : Addr
  PB : Addr
  TBO : TabB base mg cO PO
  TBB : TabB base mg cB PB
  ne : PO ≠ PB
  FO : FunC K "in_order" "in_order" st_in_order T.d_in_order.f T.d_in_order.fd cO
  FB : FunC K "_law_bent_right" "_law_bent_right" st__law_bent_right T.d__law_bent_right.f T.d__law_bent_right.fd cB
section
variable {K : PySem.W.Frag} {mg : Str → Option Value} {base : Heap} {T : Txt K mg}
def TabT.TL (Y : TabT K mg base T) : List (Addr × Str) := [(Y.PO, "in_order.<locals>.<lambda>"), (Y.PB, "_law_bent_right.<locals>.<lambda>")]
theorem TabT.onlyO (Y : TabT K mg base T) : ∀ p ∈ Y.TL, p.1 = Y.PO → p.2 = "in_order.<locals>.<lambda>" := fun p hp e => by
  rcases List.mem_cons.mp hp with z | hp
  · rw [z]
  · rw [List.mem_singleton.mp hp] at e
    exact absurd e.symm Y.ne
theorem TabT.onlyB (Y : TabT K mg base T) : ∀ p ∈ Y.TL, p.1 = Y.PB → p.2 = "_law_bent_right.<locals>.<lambda>" := fun p hp e => by
  rcases List.mem_cons.mp hp with z | hp
  · rw [z] at e; exact absurd e Y.ne
  · rw [List.mem_singleton.mp hp]
end
/-! ### the order -/
def rankD (t : Tags) : PyData := schD (t.map rankI)
noncomputable def ordL (F : List Tags) : List Tags := F.mergeSort (dataLe false rankD)
theorem rank_alike {F : List Tags} : AllAlike (F.map rankD) := PySem.W.AllAlike.of fun b b' => by
  show PySem.W.alike (.tuple _) (.tuple _) = true
  rw [PySem.W.alike]
  exact PySem.W.alike_ints _ _
theorem rank_depth (t : Tags) : (rankD t).depth = 1 := by
  show (PyData.tuple ((t.map rankI).map .int)).depth = 1
  rw [PyData.depth, PySem.W.depth_ints]
section
variable {P : Program} {w : World} {K : PySem.W.Frag} {mg : Str → Option Value} {base : Heap}
def OrdSp (K : PySem.W.Frag) (TL : List (Addr × Str)) : Sp := fun vs H Q _ => ∃ v F, vs = [v] ∧ Dp K H v (.list (F.map tagsD)) ∧ (∀ t ∈ F, 1 ≤ t.length ∧ t.length ≤ 1000) ∧ F.length ≤ 1000 ∧ Tabs TL H ∧ ∀ u H', ExtN H H' → Tabs TL H' → Dp K H' u (lotsD (ordL F)) → Q u H'
theorem sc_in_order : FnScope ["lots"] ["lots"] (defScope st_in_order) := ⟨rfl, rfl, rfl, by decide +kernel, rfl, by decide +kernel, by decide +kernel⟩
theorem ok_in_order (T : Txt K mg) (Y : TabT K mg base T) : FnOk P w K mg base CX0 5 T.d_in_order.f T.d_in_order.fd ["lots"] (OrdSp K Y.TL) := by
  refine Y.FO.ok sc_in_order ?len (fun A outer s H vs Q E hr h => ?_)
  case len =>
    rintro vs H Q E ⟨v, F, rfl, _⟩
    rfl
  obtain ⟨v, F, rfl, p, hF, hl, hT, k⟩ := h
  refine ⟨_, (pss_one (ps_ret (pe_callTy (tupK (K := K)) (by rfl) T.b_tuple (by decide +kernel) (pa_cons (pe_sortLam (β := Tags) (T := Y.TL) (N := ["tags"]) (k := 1) (by rfl) T.b_sorted (pv 0) Y.TBO rfl (by simp [TabT.TL]; exact .inl rfl) Y.onlyO (hr.mono (by decide)) ⟨rfl, rfl, rfl, by decide +kernel, rfl, by decide +kernel, by decide +kernel⟩ rfl rfl rfl (by decide +kernel) (fun _ _ _ _ _ => rfl) (fun A outer s H E f c' hr => (pe_call (ok_rank (P := P) (w := w) T) (hr.mono (by decide)) (by rfl) T.d_rank.g T.d_rank.F.kp T.d_rank.b .nil pass0 (pa_cons (pv 0) pa_nil))) rfl) pa_nil)))), ?_⟩
  refine ⟨v, rfl, hT, F, tagsD, rankD, p, stayAll_map fun t _ => stay_tupled _ (tupled_tags t), rank_alike, ?_, by omega, fun t _ => ?_, fun t ht u H2 H3 _ _ pu => ?_, fun a H2 eN T2 p2 => ?_⟩
  · refine .inl fun d hd => ?_
    obtain ⟨t, ht, rfl⟩ := List.mem_map.mp hd
    obtain ⟨c, t', rfl⟩ := List.exists_cons_of_ne_nil (List.length_pos_iff.mp (hF t ht).1)
    exact ⟨_, _, rfl⟩
  · rw [rank_depth]; decide
  · exact ed_call (eds_cons (ed_var rfl pu) eds_nil) ⟨t, rfl, (hF t ht).2, rfl⟩
  · exact rcd_tuple H2 [.ref a] (.cons p2 .nil) _ fun v H3 e3 p3 => k v H3 (LamX.ExtN.trans eN (LamX.ExtN.of e3)) (T2.ext e3) p3
end
end BB
/-! M4: the lots in order: one list only. -/
namespace BB
open PySem L2 Evl
open PySem.W (dataLe)
theorem rankLe : dataLe false rankD = fun p q => decide (p.map rankI ≤ q.map rankI) := by
  have h := PySem.W.dataLe_rows (β := Tags) fun t => t.map rankI
  rw [← h]
  funext p q
  show (!PySem.W.dataLt (.tuple _) (.tuple _)) = (!PySem.W.dataLt (.list _) (.list _))
  rw [PySem.W.dataLt_list, PySem.W.dataLt_tuple]
theorem rankI_inj {a b : Option Nat} (h : rankI a = rankI b) : a = b := by
  cases a with
  | none => cases b with
    | none => rfl
    | some n => exact absurd h (by show ¬ ((-1 : Int) = (n : Int)); omega)
  | some m => cases b with
    | none => exact absurd h (by show ¬ ((m : Int) = -1); omega)
    | some n =>
      have h : (m : Int) = (n : Int) := h
      rw [Int.ofNat.inj h]
theorem rankL_inj : ∀ {t u : Tags}, t.map rankI = u.map rankI → t = u
  | [], [], _ => rfl
  | [], _ :: _, h => by cases h
  | _ :: _, [], h => by cases h
  | a :: t, b :: u, h => by
    rw [List.map_cons, List.map_cons] at h
    injection h with h1 h2
    rw [rankI_inj h1, rankL_inj h2]
def Rk (p q : Tags) : Prop := p.map rankI ≤ q.map rankI
theorem ordL_sorted (F : List Tags) : (ordL F).Pairwise Rk := by
  have := List.pairwise_mergeSort (le := dataLe false rankD) (fun a b c h1 h2 => by
    rw [rankLe] at h1 h2 ⊢
    exact decide_eq_true (List.le_trans (of_decide_eq_true h1) (of_decide_eq_true h2))) (fun a b => by
    rw [rankLe]
    rw [Bool.or_eq_true, decide_eq_true_iff, decide_eq_true_iff]
    exact List.le_total _ _) F
  refine this.imp fun {a b} h => ?_
  rw [rankLe] at h
  show a.map rankI ≤ b.map rankI
  exact of_decide_eq_true h
/-- the lots, in order -/
structure Due (B : List (List Int)) (R : List (List (List Int))) (G : List Tags) : Prop where
  lots : LotsF B R G
  ord : G.Pairwise Rk
theorem sorted_eq {F G : List Tags} (hF : F.Nodup) (hG : G.Nodup) (h : ∀ t, t ∈ F ↔ t ∈ G) (o1 : F.Pairwise Rk) (o2 : G.Pairwise Rk) : F = G := by
  refine List.Perm.eq_of_pairwise (le := Rk) (fun a b _ _ h1 h2 => rankL_inj (List.le_antisymm h1 h2)) o1 o2 ?_
  exact (List.perm_ext_iff_of_nodup hF hG).mpr h
theorem Due.eq {B : List (List Int)} {R : List (List (List Int))} {F G : List Tags} (h : Due B R G) (hF : LotsF B R F) : ordL F = G := by
  have hp := List.mergeSort_perm F (dataLe false rankD)
  refine sorted_eq (hp.nodup_iff.mpr hF.1) h.lots.1 (fun t => ?_) (ordL_sorted F) h.ord
  rw [show t ∈ ordL F ↔ t ∈ F from hp.mem_iff, hF.2, h.lots.2]
end BB
/-! D14: the whole. -/
namespace BB
open PySem L2 Evl LamX
theorem BkN.kn {H H' : Hp} {v : V} {B : List (List Int)} (h : BkN H v B) (e : ExtN H H') : BkN H' v B :=
  h.kf ⟨fun a xs h => e a _ h (fun ps z => nomatch z), fun a xs h => e a _ h (fun ps z => nomatch z), fun a o u h => e a _ h (fun ps z => nomatch z)⟩
theorem dp_kn {K : PySem.W.Frag} {H H' : Hp} {v : V} {d : PyData} (h : Dp K H v d) (e : ExtN H H') : Dp K H' v d := dp_kl (ExtN.kl e) _ _ h
theorem dpa_kn {K : PySem.W.Frag} {H H' : Hp} {vs : List V} {ds : List PyData} (h : DpAll K H vs ds) (e : ExtN H H') : DpAll K H' vs ds := dpa_kl (ExtN.kl e) _ _ h
/-- a value worked out where code tables may be written -/
def EDn (K : PySem.W.Frag) (TL : List (Addr × Str)) (te : TE) (σ : L2.St) (H : Hp) (d : PyData) : Prop := ∀ H1, ExtN H H1 → Tabs TL H1 → ∀ Q : VK, (∀ v H2, ExtN H1 H2 → Tabs TL H2 → Dp K H2 v d → Q v H2) → te σ H1 Q
/-- the book first, then data; a code table may be written -/
def BSp (K : PySem.W.Frag) (TL : List (Addr × Str)) (P : List (List Int) → List PyData → PyData → Prop) : Sp := fun vs H Q _ => ∃ v0 rest B ds d, vs = v0 :: rest ∧ BkN H v0 B ∧ DpAll K H rest ds ∧ Tabs TL H ∧ P B ds d ∧ ∀ v H', ExtN H H' → Tabs TL H' → Dp K H' v d → Q v H'
section
variable {K : PySem.W.Frag} {TL : List (Addr × Str)} {σ : L2.St} {H : Hp} {ta tb te : TE} {tl : TA} {d : PyData} {ds : List PyData} {B : List (List Int)}
theorem edn_of (h : ∀ H1, ExtN H H1 → ED K te σ H1 d) : EDn K TL te σ H d := fun H1 e T Q q => h H1 e H1 (Ex.refl _) Q fun v H2 e2 p => q v H2 (ExtN.of e2) (T.ext e2) p
theorem EDn.is {d' : PyData} (h : EDn K TL te σ H d) (e : d = d') : EDn K TL te σ H d' := e ▸ h
theorem edn_call {P : List (List Int) → List PyData → PyData → Prop} {E : XK} (hb : ∀ H1, ExtN H H1 → EB te σ H1 B) (h : ∀ H1, ExtN H H1 → EDs K tl σ H1 ds) (hp : P B ds d) : EDn K TL (tCall (BSp K TL P) [] E (tCons te tl)) σ H d := fun H1 e T Q q =>
  hb H1 e H1 (Ex.refl _) _ fun v H2 e2 pv => h H2 (ExtN.trans e (ExtN.of e2)) H2 (Ex.refl _) _ fun xs H3 e3 px => ⟨v, xs, B, ds, d, by rw [List.append_nil], pv.ex e3, px, T.ext (e2.trans e3), hp, fun z H4 e4 T4 pz => q z H4 (ExtN.trans (ExtN.of (e2.trans e3)) e4) T4 pz⟩
theorem edn_op {a b c : PyData} {r : R2} (ha : EDn K TL ta σ H a) (hb : ∀ H1, ExtN H H1 → ED K tb σ H1 b) (hr : RD K r a b c) : EDn K TL (tOp r ta tb) σ H c := fun H1 e T Q q =>
  ha H1 e T _ fun x H2 e2 T2 px => hb H2 (ExtN.trans e e2) H2 (Ex.refl _) _ fun y H3 e3 py => hr H3 x y (px.ex e3) py _ fun z H4 e4 pz => q z H4 (ExtN.trans e2 (ExtN.of (e3.trans e4))) (T2.ext (e3.trans e4)) pz
theorem edn_and {x y : Bool} (h1 : EDn K TL ta σ H (.bool x)) (h2 : x = true → EDn K TL tb σ H (.bool y)) : EDn K TL (tAndV ta tb) σ H (.bool (x && y)) := fun H1 e T Q q =>
  h1 H1 e T _ fun v H2 e2 T2 p => ⟨x, dp_bl p, by
    cases x with
    | true => exact h2 rfl H2 (ExtN.trans e e2) T2 _ fun u H3 e3 T3 p3 => q u H3 (ExtN.trans e2 e3) T3 p3
    | false =>
      cases dp_bl p
      exact q _ H2 e2 T2 p⟩
theorem sn_ret {D : Ends} (T : Tabs TL H) (h : EDn K TL te σ H d) (k : ∀ v H1, ExtN H H1 → Tabs TL H1 → Dp K H1 v d → D.rt v H1) : tRet te D σ H := h H (ExtN.refl _) T _ fun v H1 e T1 p => k v H1 e T1 p
end
theorem LotsF.len1 {B : List (List Int)} {R : List (List (List Int))} {F : List Tags} (h : LotsF B R F) (hD : DataG B R) : (∀ t ∈ F, 1 ≤ t.length ∧ t.length ≤ 1000) ∧ F.length ≤ 1000 := by
  have hs := hD.small
  have h1 := hD.book.1
  refine ⟨fun t ht => ?_, ?_⟩
  · have := ((h.2 t).mp ht).1
    omega
  · have := lots_few hD h.1 fun t ht => (h.2 t).mp ht
    omega
section
variable {P : Program} {w : World} {K : PySem.W.Frag} {mg : Str → Option Value} {base : Heap}
theorem sc_whole_of : FnScope ["book", "data"] ["book", "data"] (defScope st_whole_of) := ⟨rfl, rfl, rfl, by decide +kernel, rfl, by decide +kernel, by decide +kernel⟩
def P_whole : List (List Int) → List PyData → PyData → Prop := fun B ds res => ∃ R G, ds = [dataD R] ∧ DataG B R ∧ Due B R G ∧ res = lotsD G
theorem ok_whole_of (T : Txt K mg) (Y : TabT K mg base T) : FnOk P w K mg base CX0 6 T.d_whole_of.f T.d_whole_of.fd ["book", "data"] (BSp K Y.TL P_whole) := by
  refine T.d_whole_of.F.ok sc_whole_of ?len (fun cdv A outer s H vs Q E hr h => ?_)
  case len =>
    rintro vs H Q E ⟨v0, rest, B, ds, d, rfl, _, h, _, ⟨R, G, rfl, _⟩, _⟩
    exact congrArg Nat.succ h.length
  obtain ⟨v0, rest, B, ds, res, rfl, hB, hA, hT, ⟨R, G, rfl, hD, hG, rfl⟩, k⟩ := h
  obtain ⟨v1, rfl, p1⟩ := dpa1 hA
  refine ⟨_, (pss_one (ps_ret (pe_call (ok_in_order (P := P) (w := w) T Y) (hr.mono (by decide)) (by rfl) T.d_in_order.g T.d_in_order.F.kp T.d_in_order.b .nil pass0 (pa_cons (pe_call (ok_lots_of (P := P) (w := w) T) (hr.mono (by decide)) (by rfl) T.d_lots_of.g T.d_lots_of.F.kp T.d_lots_of.b .nil pass0 (pa_cons (pe_make T.mkF (ok_Fits_init (P := P) (w := w) T) (hr.mono (by decide)) (by rfl) T.gF T.m_init_b .nil pass0 (pa_cons (pv 0) (pa_cons (pv 1) pa_nil))) pa_nil)) pa_nil)))), ?_⟩
  refine ⟨v0, rfl, v1, rfl, fun x dx hx hdx hne => ?_⟩
  have hnx : ∀ {a : Addr} {o : HO}, H a = some o → a ≠ x ∧ a ≠ dx := fun {a o} h => ⟨fun z => (by rw [z, hx] at h; cases h), fun z => (by rw [z, hdx] at h; cases h)⟩
  have e1 : Ex H (upd (upd H dx (.own x)) x (.ins T.FC dx [])) := fun a o h => by
    rw [upd_ne (hnx h).1, upd_ne (hnx h).2]; exact h
  refine ⟨x, dx, v0, v1, B, R, rfl, upd_same, hB.ex e1, p1.ex e1, hD, fun H2 kp fo => ⟨rfl, ?_⟩⟩
  have e2 : Ex H H2 := fun a o h => kp a o (hnx h).1 (e1 a o h)
  refine ⟨x, B, R, rfl, fo, hD, fun l xs F H3 e3 hl h3 d3 lf => ?_⟩
  have e03 := e2.trans e3
  obtain ⟨hF1, hF2⟩ := lf.len1 hD
  refine ⟨.ref l, F, rfl, .lst (.inl (.inl h3)) d3, hF1, hF2, hT.ext e03, fun u H4 e4 T4 p4 => ?_⟩
  rw [hG.eq lf] at p4
  exact k u H4 (ExtN.trans (ExtN.of e03) e4) T4 p4
theorem sc_whole : FnScope ["book", "data"] ["book", "data"] (defScope st_whole) := ⟨rfl, rfl, rfl, by decide +kernel, rfl, by decide +kernel, by decide +kernel⟩
theorem ok_whole (T : Txt K mg) (Y : TabT K mg base T) : FnOk P w K mg base CX0 10 T.d_whole.f T.d_whole.fd ["book", "data"] (BSp K Y.TL P_whole) := by
  refine T.d_whole.F.ok sc_whole ?len (fun cdv A outer s H vs Q E hr h => ?_)
  case len =>
    rintro vs H Q E ⟨v0, rest, B, ds, d, rfl, _, h, _, ⟨R, G, rfl, _⟩, _⟩
    exact congrArg Nat.succ h.length
  obtain ⟨v0, rest, B, ds, res, rfl, hB, hA, hT, ⟨R, G, rfl, hD, hG, rfl⟩, k⟩ := h
  obtain ⟨v1, rfl, p1⟩ := dpa1 hA
  refine ⟨_, (pss_cons (ps_set (i := 1) sc_whole.nd rfl (by first | exact Or.inl rfl | exact Or.inr rfl) (pe_call (ok_made_data (P := P) (w := w) T) (hr.mono (by decide)) (by rfl) T.d_made_data.g T.d_made_data.F.kp T.d_made_data.b .nil pass0 (pa_cons (pv 0) (pa_cons (pv 1) pa_nil))))
      (pss_one (ps_ret (pe_call (ok_whole_of (P := P) (w := w) T Y) (hr.mono (by decide)) (by rfl) T.d_whole_of.g T.d_whole_of.F.kp T.d_whole_of.b .nil pass0 (pa_cons (pv 0) (pa_cons (pv 1) pa_nil)))))), ?_⟩
  refine q_asgD (ed_call (eds_cons (ed_var rfl hB.dp) (eds_cons (ed_var rfl p1) eds_nil)) ⟨B, R.map rowsD, rfl, hD.book, hD.t, hD.good, rfl⟩) fun z H1 e pz => ?_
  exact sn_ret (K := K) (hT.ext e) (edn_call (fun H2 e2 => eb_var rfl ((hB.ex e).kn e2)) (fun H2 e2 => eds_cons (ed_var rfl (dp_kn pz e2)) eds_nil) ⟨R, G, rfl, hD, hG, rfl⟩) fun v H2 e2 T2 p2 => k v H2 (ExtN.trans (ExtN.of e) e2) T2 p2
theorem sc_is_told_whole : FnScope ["book", "data", "thing"] ["book", "data", "thing"] (defScope st_is_told_whole) := ⟨rfl, rfl, rfl, by decide +kernel, rfl, by decide +kernel, by decide +kernel⟩
def P_told : List (List Int) → List PyData → PyData → Prop := fun B ds res => ∃ R G d, ds = [dataD R, d] ∧ DataG B R ∧ Due B R G ∧ SeqAt.shaped d = true ∧ res = .bool (PyData.eqv (lotsD G) d)
theorem ok_is_told_whole (T : Txt K mg) (Y : TabT K mg base T) : FnOk P w K mg base CX0 7 T.d_is_told_whole.f T.d_is_told_whole.fd ["book", "data", "thing"] (BSp K Y.TL P_told) := by
  refine T.d_is_told_whole.F.ok sc_is_told_whole ?len (fun cdv A outer s H vs Q E hr h => ?_)
  case len =>
    rintro vs H Q E ⟨v0, rest, B, ds, d, rfl, _, h, _, ⟨R, G, d, rfl, _⟩, _⟩
    exact congrArg Nat.succ h.length
  obtain ⟨v0, rest, B, ds, res, rfl, hB, hA, hT, ⟨R, G, d, rfl, hD, hG, hd, rfl⟩, k⟩ := h
  obtain ⟨v1, v2, rfl, p1, p2⟩ := dpa2 hA
  refine ⟨_, (pss_one (ps_try_thru0
      (pss_one (ps_ret (pe_cmpR (eqDK (K := K) hr) (pe_call (ok_whole_of (P := P) (w := w) T Y) (hr.mono (by decide)) (by rfl) T.d_whole_of.g T.d_whole_of.F.kp T.d_whole_of.b .nil pass0 (pa_cons (pv 0) (pa_cons (pv 1) pa_nil))) (pv 2) (nomark _)))))), ?_⟩
  exact sn_ret (K := K) hT (edn_op (edn_call (fun H2 e2 => eb_var rfl (hB.kn e2)) (fun H2 e2 => eds_cons (ed_var rfl (dp_kn p1 e2)) eds_nil) ⟨R, G, rfl, hD, hG, rfl⟩) (fun H2 e2 => ed_var rfl (dp_kn p2 e2)) (rd_eqD (shaped_lots G) hd)) fun v H2 e2 T2 p2 => k v H2 e2 T2 p2
end
end BB
/-! D15: is_whole. -/
namespace BB
open PySem L2 Evl LamX
theorem tagD_inj {a b : Option Nat} (h : tagD a = tagD b) : a = b := by
  cases a <;> cases b
  · rfl
  · cases h
  · cases h
  · injection h with h; rw [Int.ofNat.inj h]
theorem tagsD_inj {t u : Tags} (h : tagsD t = tagsD u) : t = u := by
  injection h with h
  exact (List.map_inj_right fun a b => tagD_inj).mp h
theorem lotsD_inj {F G : List Tags} (h : lotsD F = lotsD G) : F = G := by
  injection h with h
  exact (List.map_inj_right fun a b => tagsD_inj).mp h
theorem eqv_lots {F G : List Tags} : PyData.eqv (lotsD F) (lotsD G) = decide (F = G) := by
  rw [Bool.eq_iff_iff, decide_eq_true_iff, eqv_tupled _ _ (tupled_lots F) (tupled_lots G)]
  exact ⟨lotsD_inj, fun h => h ▸ rfl⟩
theorem Due.some {B : List (List Int)} {R : List (List (List Int))} {G : List Tags} {t : Tags} (h : Due B R G) (ht : t ∈ G) : t.any Option.isSome = true := by
  obtain ⟨s, hs, _⟩ := ((h.lots.2 t).mp ht).2.lot.conn
  rw [List.any_eq_true]
  unfold tOf at hs
  rw [List.getD_eq_getElem?_getD] at hs
  cases q : t[s]? with
  | none => rw [q] at hs; cases hs
  | some a => rw [q] at hs; exact ⟨a, List.mem_of_getElem? q, hs⟩
/-- the things asked about -/
def ThingT (B : List (List Int)) (R : List (List (List Int))) (d : PyData) : Prop := d = .none ∨ (∃ x, d = .str x ∧ PyData.canLay0 (.str x) = true) ∨ ∃ ts : List Tags, d = lotsD ts ∧ ts.length ≤ 1000 ∧ ∀ t ∈ ts, t.length = B.length ∧ InR R t
def isTup : PyData → Bool
  | .tuple _ => true
  | _ => false
theorem ThingT.isi {B : List (List Int)} {R : List (List (List Int))} {d : PyData} (h : ThingT B R d) : kitB (tyName d) "tuple" = some (isTup d) := by
  rcases h with rfl | ⟨x, rfl, _⟩ | ⟨ts, rfl, _⟩
  · exact kit_non_tup
  · exact kit_str_tup
  · exact kit_tup_tup
theorem ThingT.shaped {B : List (List Int)} {R : List (List (List Int))} {d : PyData} (h : ThingT B R d) : SeqAt.shaped d = true := by
  rcases h with rfl | ⟨x, rfl, hx⟩ | ⟨ts, rfl, _⟩
  · exact shaped_of rfl (by decide)
  · exact shaped_of hx (by show 0 ≤ 60; decide)
  · exact shaped_lots ts
def P_is_whole : List (List Int) → List PyData → PyData → Prop := fun B ds res => ∃ d, (∃ R G, ds = [dataD R, d] ∧ DataG B R ∧ Due B R G ∧ ThingT B R d ∧ res = .bool (PyData.eqv (lotsD G) d)) ∨
  ∃ ys, ds = [.tuple ys, d] ∧ bookB B ∧ DataT B ys ∧ (∃ (m : Nat) (y : PyData), ys[m]? = some y ∧ ¬ GoodRows (B.getD m []) y) ∧ res = .bool false
section
variable {P : Program} {w : World} {K : PySem.W.Frag} {mg : Str → Option Value} {base : Heap}
theorem sc_is_whole : FnScope ["book", "data", "thing", "tags"] ["book", "data", "thing"] (defScope st_is_whole) := ⟨rfl, rfl, rfl, by decide +kernel, rfl, by decide +kernel, by decide +kernel⟩
theorem ok_is_whole (T : Txt K mg) (Y : TabT K mg base T) : FnOk P w K mg base CX0 9 T.d_is_whole.f T.d_is_whole.fd ["book", "data", "thing"] (BSp K Y.TL P_is_whole) := by
  refine T.d_is_whole.F.ok sc_is_whole ?len (fun cdv A outer s H vs Q E hr h => ?_)
  case len =>
    rintro vs H Q E ⟨v0, rest, B, ds, d, rfl, _, h, _, ⟨d, ⟨R, G, rfl, _⟩ | ⟨ys, rfl, _⟩⟩, _⟩
    · exact congrArg Nat.succ h.length
    · exact congrArg Nat.succ h.length
  obtain ⟨v0, rest, B, ds, res, rfl, hB, hA, hT, ⟨d, hP⟩, k⟩ := h
  refine ⟨_, (pss_cons (ps_if (PW.pt (pw_or (pt_not (pt_val (pe_call (ok_is_book (P := P) (w := w) T) (hr.mono (by decide)) (by rfl) T.d_is_book.g T.d_is_book.F.kp T.d_is_book.b .nil pass0 (pa_cons (pv 0) pa_nil)))) (pw_or (pt_not (pt_val (pe_call (ok_is_data (P := P) (w := w) T) (hr.mono (by decide)) (by rfl) T.d_is_data.g T.d_is_data.F.kp T.d_is_data.b .nil pass0 (pa_cons (pv 0) (pa_cons (pv 1) pa_nil))))) (pw_or1 (pt_not (pt_val (pe_callB (isiK (K := K)) (by rfl) T.b_isinstance (by decide +kernel) (pa_cons (pv 2) (pa_cons (pe_bltn (v := .ty "tuple") (by rfl) T.b_tuple (by decide +kernel) rfl) pa_nil)))))))))
      (pss_one (ps_ret pe_bl))
      pss_nil)
      (pss_one (ps_ret (pe_and (pe_callB (allK (K := K) rfl) (by rfl) T.b_all (by decide +kernel) (pa_cons (pe_lc (own := [("tags", 3)]) rfl sc_is_whole.nd (piTK (K := K) (pv 2)) (blkOk_by (own := [("tags", 3)]) (N := ["book", "data", "thing", "tags"]) (sc := defScope st_is_whole) (by decide +kernel)) (fun _ _ _ _ _ => (pg_name (i := 3) sc_is_whole.nd rfl (by first | exact Or.inl rfl | exact Or.inr rfl))) (fun _ _ _ _ _ => pts_nil) (fun _ _ _ _ _ => (pe_call (ok_is_tags (P := P) (w := w) T) (hr.mono (by decide)) (by rfl) T.d_is_tags.g T.d_is_tags.F.kp T.d_is_tags.b .nil pass0 (pa_cons (pv 0) (pa_cons (pv 1) (pa_cons (pv 3) pa_nil)))))) pa_nil)) (pe_one (pe_call (ok_is_told_whole (P := P) (w := w) T Y) (hr.mono (by decide)) (by rfl) T.d_is_told_whole.g T.d_is_told_whole.F.kp T.d_is_told_whole.b .nil pass0 (pa_cons (pv 0) (pa_cons (pv 1) (pa_cons (pv 2) pa_nil))))))))), ?_⟩
  rcases hP with ⟨R, G, rfl, hD, hG, hd, rfl⟩ | ⟨ys, rfl, hb, hy, hbad, rfl⟩
  · obtain ⟨v1, v2, rfl, p1, p2⟩ := dpa2 hA
    refine q_whenD (x := !true || (!true || !isTup d)) (et_or (et_not (et_B (ed_call (eds_cons (ed_var rfl hB.dp) eds_nil) ⟨B, rfl, hD.book, rfl⟩))) fun _ => et_or (et_not (et_B (ed_call (eds_cons (ed_var rfl hB.dp) (eds_cons (ed_var rfl p1) eds_nil)) ⟨B, R.map rowsD, rfl, hD.book, hD.t, .inl ⟨hD.good, rfl⟩⟩))) fun _ => et_not (et_B (ed_isi (ed_var rfl p2) hd.isi))) (fun hx H1 e => ?_) (fun hx H1 e => ?_)
    · refine s_retD (K := K) ed_bl fun v H2 e2 pv => k v H2 (ExtN.of (e.trans e2)) (hT.ext (e.trans e2)) ?_
      have : PyData.eqv (lotsD G) d = false := by
        rcases hd with rfl | ⟨x, rfl, _⟩ | ⟨ts, rfl, _⟩
        · rfl
        · rfl
        · cases hx
      rw [this]; exact pv
    · rcases hd with rfl | ⟨x, rfl, _⟩ | ⟨ts, rfl, hl, hts⟩
      · cases hx
      · cases hx
      · have hsm := hD.small
        refine sn_ret (K := K) (hT.ext e) ((edn_and (x := ts.all fun t => t.any Option.isSome) (y := PyData.eqv (lotsD G) (lotsD ts)) (edn_of fun H2 e2 => ed_all (ed_lcY (xs := ts) (enc := tagsD) (w := fun t => .bool (t.any Option.isSome)) (fun H3 e3 => ei_tup (ed_var rfl ((dp_kn (p2.ex e) e2).ex e3))) (by omega) (fun _ _ => rfl) (fun _ => rfl)
          (fun t x H3 ht e3 px => ed_call (eds_cons (ed_var rfl ((hB.ex e).kn e2 |>.ex e3).dp) (eds_cons (ed_var rfl ((dp_kn (p1.ex e) e2).ex e3)) (eds_cons (ed_var rfl px) eds_nil))) ⟨B, R, t, rfl, by omega, hD.len, (hts t ht).1, (hts t ht).2, rfl⟩)))
          fun _ => edn_call (fun H2 e2 => eb_var rfl ((hB.ex e).kn e2)) (fun H2 e2 => eds_cons (ed_var rfl (dp_kn (p1.ex e) e2)) (eds_cons (ed_var rfl (dp_kn (p2.ex e) e2)) eds_nil)) ⟨R, G, _, rfl, hD, hG, shaped_lots ts, rfl⟩).is ?_) fun v H2 e2 T2 p => k v H2 (ExtN.trans (ExtN.of e) e2) T2 p
        rw [eqv_lots]
        by_cases hGt : G = ts
        · subst hGt
          rw [show (G.all fun t => t.any Option.isSome) = true from List.all_eq_true.mpr fun t ht => hG.some ht, Bool.true_and]
        · rw [decide_eq_false hGt, Bool.and_false]
  · obtain ⟨v1, v2, rfl, p1, p2⟩ := dpa2 hA
    refine q_whenD (x := !true || (!false || true)) (et_or (et_not (et_B (ed_call (eds_cons (ed_var rfl hB.dp) eds_nil) ⟨B, rfl, hb, rfl⟩))) fun _ => et_or (et_not (et_B (ed_call (eds_cons (ed_var rfl hB.dp) (eds_cons (ed_var rfl p1) eds_nil)) ⟨B, ys, rfl, hb, hy, .inr ⟨hbad, rfl⟩⟩))) fun h => nomatch h) (fun hx H1 e => ?_) (fun hx => nomatch hx)
    exact s_retD (K := K) ed_bl fun v H2 e2 pv => k v H2 (ExtN.of (e.trans e2)) (hT.ext (e.trans e2)) pv
end
end BB
/-! L1: the law's own small texts. -/
namespace BB
open PySem L2 Evl LamX
theorem fill_eq (t : Tags) : (List.range t.length).filter (fun i => (t.getD i none).isSome) = haveN t := by
  have e : t.zipIdx = (List.range t.length).map fun i => (t.getD i none, i) := by
    refine List.ext_getElem? fun i => ?_
    rw [List.getElem?_zipIdx, List.getElem?_map]
    by_cases h : i < t.length
    · rw [List.getElem?_range h, getD_of (d := none) h]
      simp
    · rw [List.getElem?_eq_none (by omega), List.getElem?_eq_none (by rw [List.length_range]; omega)]; rfl
  unfold haveN
  rw [e, List.filter_map, List.map_map]
  symm
  exact List.map_id _
/-- one lies in two, as the law tells it -/
def inB (t u : Tags) : Bool := ((List.range t.length).filter fun k => (t.getD k none).isSome && !decide (t.getD k none = u.getD k none)).isEmpty
theorem inB_iff {t u : Tags} : inB t u = true ↔ ∀ (k a : Nat), t[k]? = some (some a) → u.getD k none = some a := by
  unfold inB
  rw [List.isEmpty_iff, List.filter_eq_nil_iff]
  constructor
  · intro h k a hk
    have h1 := h k (List.mem_range.mpr (List.getElem?_eq_some_iff.mp hk).1)
    have : t.getD k none = some a := by rw [List.getD_eq_getElem?_getD, hk]; rfl
    rw [this] at h1
    have h1 : ¬ (true && !decide (some a = u.getD k none)) = true := h1
    rw [Bool.true_and, Bool.not_eq_true, Bool.not_eq_false', decide_eq_true_iff] at h1
    exact h1.symm
  · intro h k hk h1
    rw [Bool.and_eq_true] at h1
    obtain ⟨a, ha⟩ := Option.isSome_iff_exists.mp h1.1
    have hk' := List.mem_range.mp hk
    have h2 : t[k]? = some (some a) := by rw [getD_of (d := none) hk', ha]
    have := h k a h2
    rw [ha, this, decide_eq_true rfl] at h1
    cases h1.2
theorem findIdx_some {α : Type} {p : α → Bool} : ∀ {xs : List α} {i : Nat}, xs.findIdx? p = some i → ∃ a, xs[i]? = some a ∧ p a = true
  | [], i, h => by cases h
  | x :: xs, i, h => by
    rw [List.findIdx?_cons] at h
    by_cases hp : p x = true
    · rw [if_pos hp] at h; cases h; exact ⟨x, rfl, hp⟩
    · rw [if_neg hp] at h
      cases q : xs.findIdx? p with
      | none => rw [q] at h; cases h
      | some m =>
        rw [q] at h; cases h
        obtain ⟨a, h1, h2⟩ := findIdx_some q
        exact ⟨a, by simpa using h1, h2⟩
section
variable {P : Program} {w : World} {K : PySem.W.Frag} {mg : Str → Option Value} {base : Heap}
theorem EDs.is {σ : L2.St} {H : Hp} {tl : TA} {ds ds' : List PyData} (h : EDs K tl σ H ds) (e : ds = ds') : EDs K tl σ H ds' := e ▸ h
theorem tags_get {t : Tags} {i : Nat} (h : i < t.length) : (t.map tagD)[i]? = some (tagD (t.getD i none)) := by
  rw [List.getElem?_map, getD_of (d := none) h]; rfl
theorem sc__law_common_columns : FnScope ["_law_book", "_law_i", "_law_j", "_law_c"] ["_law_book", "_law_i", "_law_j"] (defScope st__law_common_columns) := ⟨rfl, rfl, rfl, by decide +kernel, rfl, by decide +kernel, by decide +kernel⟩
theorem ok__law_common_columns (T : Txt K mg) : FnOk P w K mg base CX0 1 T.d__law_common_columns.f T.d__law_common_columns.fd ["_law_book", "_law_i", "_law_j"] (PureSp K P_shared_of) := by
  refine T.d__law_common_columns.F.ok sc__law_common_columns ?len (fun cdv A outer s H vs Q E hr h => ?_)
  case len =>
    rintro vs H Q E ⟨ds, d, h, ⟨B, i, j, rfl, _⟩, _⟩
    exact h.length
  obtain ⟨ds, d, hA, ⟨B, i, j, rfl, hB, hi, hj, rfl⟩, k⟩ := h
  obtain ⟨v, u, w', rfl, p, q, r⟩ := dpa3 hA
  refine ⟨_, (pss_one (ps_ret (pe_callTy (tupK (K := K)) (by rfl) T.b_tuple (by decide +kernel) (pa_cons (pe_lc (own := [("_law_c", 3)]) rfl sc__law_common_columns.nd (piTK (K := K) (pe_ix (ixTK (K := K)) (pv 0) (pv 1) (fun _ _ => rfl))) (blkOk_by (own := [("_law_c", 3)]) (N := ["_law_book", "_law_i", "_law_j", "_law_c"]) (sc := defScope st__law_common_columns) (by decide +kernel)) (fun _ _ _ _ _ => (pg_name (i := 3) sc__law_common_columns.nd rfl (by first | exact Or.inl rfl | exact Or.inr rfl))) (fun _ _ _ _ _ => pts_one (pt_cmpR (inK (K := K)) (pv 3) (pe_ix (ixTK (K := K)) (pv 0) (pv 2) (fun _ _ => rfl)) (by rfl))) (fun _ _ _ _ _ => (pv 3))) pa_nil)))), ?_⟩
  refine s_retD (ed_cb (eds_cons (ed_lc (xs := B.getD i []) (enc := PyData.int) (f := fun c => decide (c ∈ B.getD j [])) (w := PyData.int) (fun H1 e => ei_tup (ed_op (ed_var rfl (p.ex e)) (ed_var rfl (q.ex e)) (rd_ixT (rows_get hi)))) (by have := schB_len (hB.2.2 _ (getD_mem hi)); omega) (fun _ _ _ => rfl) (fun _ => rfl)
    (fun c x H1 _ e px => et_test (ed_op (ed_var rfl px) (ed_op (ed_var rfl (p.ex e)) (ed_var rfl (r.ex e)) (rd_ixT (rows_get hj))) rd_inT)) (fun c x H1 _ e px _ => ed_var rfl px)) eds_nil) rcd_tuple) fun v H1 e p => k v H1 e p
theorem sc__law_are_near : FnScope ["_law_book", "_law_i", "_law_j"] ["_law_book", "_law_i", "_law_j"] (defScope st__law_are_near) := ⟨rfl, rfl, rfl, by decide +kernel, rfl, by decide +kernel, by decide +kernel⟩
theorem ok__law_are_near (T : Txt K mg) : FnOk P w K mg base CX0 2 T.d__law_are_near.f T.d__law_are_near.fd ["_law_book", "_law_i", "_law_j"] (PureSp K P_are_neighbours) := by
  refine T.d__law_are_near.F.ok sc__law_are_near ?len (fun cdv A outer s H vs Q E hr h => ?_)
  case len =>
    rintro vs H Q E ⟨ds, d, h, ⟨B, i, j, rfl, _⟩, _⟩
    exact h.length
  obtain ⟨ds, d, hA, ⟨B, i, j, rfl, hB, hi, hj, rfl⟩, k⟩ := h
  obtain ⟨v, u, w', rfl, p, q, r⟩ := dpa3 hA
  refine ⟨_, (pss_one (ps_ret (pe_and (pe_cmpR op_ne (pv 1) (pv 2) (nomark _)) (pe_one (pe_cmpR (neDK (K := K) hr) (pe_call (ok__law_common_columns (P := P) (w := w) T) (hr.mono (by decide)) (by rfl) T.d__law_common_columns.g T.d__law_common_columns.F.kp T.d__law_common_columns.b .nil pass0 (pa_cons (pv 0) (pa_cons (pv 1) (pa_cons (pv 2) pa_nil)))) (pe_tup pa_nil) (nomark _)))))), ?_⟩
  refine s_retD ((ed_and (ed_op (ed_var rfl q) (ed_var rfl r) rd_neI) fun _ => ed_op (ed_call (eds_cons (ed_var rfl p) (eds_cons (ed_var rfl q) (eds_cons (ed_var rfl r) eds_nil))) ⟨B, i, j, rfl, hB, hi, hj, rfl⟩) (ed_tup (ds := []) eds_nil (by decide)) (rd_neD (shaped_ints _) shaped_nil)).is ?_) fun v H1 e p => k v H1 e p
  have e1 : decide (((i : Nat) : Int) = ((j : Nat) : Int)) = decide (i = j) := by
    by_cases h : i = j
    · subst h; simp
    · rw [decide_eq_false h, decide_eq_false (by omega)]
  have e2 : PyData.eqv (schD (commonI B i j)) (.tuple []) = (commonI B i j).isEmpty := by
    show PyData.eqvAll ((commonI B i j).map PyData.int) [] = _
    cases commonI B i j <;> rfl
  rw [e1, e2]
  rfl
theorem sc__law_filled : FnScope ["_law_tags", "_law_i"] ["_law_tags"] (defScope st__law_filled) := ⟨rfl, rfl, rfl, by decide +kernel, rfl, by decide +kernel, by decide +kernel⟩
theorem ok__law_filled (T : Txt K mg) : FnOk P w K mg base CX0 1 T.d__law_filled.f T.d__law_filled.fd ["_law_tags"] (PureSp K fun ds res => ∃ (t : Tags), ds = [tagsD t] ∧ t.length ≤ 1000 ∧ res = natsD (haveN t)) := by
  refine T.d__law_filled.F.ok sc__law_filled ?len (fun cdv A outer s H vs Q E hr h => ?_)
  case len =>
    rintro vs H Q E ⟨ds, d, h, ⟨t, rfl, _⟩, _⟩
    exact h.length
  obtain ⟨ds, res, hA, ⟨t, rfl, hl, rfl⟩, k⟩ := h
  obtain ⟨v, rfl, p⟩ := dpa1 hA
  refine ⟨_, (pss_one (ps_ret (pe_callTy (tupK (K := K)) (by rfl) T.b_tuple (by decide +kernel) (pa_cons (pe_lc (own := [("_law_i", 1)]) rfl sc__law_filled.nd (pi_range1 (by rfl) T.b_range (pa_cons (pe_callB (lenK (K := K)) (by rfl) T.b_len (by decide +kernel) (pa_cons (pv 0) pa_nil)) pa_nil)) (blkOk_by (own := [("_law_i", 1)]) (N := ["_law_tags", "_law_i"]) (sc := defScope st__law_filled) (by decide +kernel)) (fun _ _ _ _ _ => (pg_name (i := 1) sc__law_filled.nd rfl (by first | exact Or.inl rfl | exact Or.inr rfl))) (fun _ _ _ _ _ => pts_one (pt_cmpR op_notN (pe_ix (ixTK (K := K)) (pv 0) (pv 1) (fun _ _ => rfl)) pe_non (nomark _))) (fun _ _ _ _ _ => (pv 1))) pa_nil)))), ?_⟩
  have hlen : (t.map tagD).length = t.length := List.length_map ..
  refine s_retD ((ed_cb (eds_cons (ed_lc (xs := List.range t.length) (enc := nD) (f := fun i => (t.getD i none).isSome) (w := nD) (fun H1 e => ei_rng (n := t.length) (eds_cons (ed_lenT (ed_var rfl (p.ex e))) eds_nil) (by omega)) (by rw [List.length_range]; omega) (fun _ _ _ => rfl) (fun _ => rfl)
    (fun i x H1 hi e px => ET.is (et_test (ed_op (ed_op (ed_var rfl (p.ex e)) (ed_var rfl px) (rd_ixT (tags_get (List.mem_range.mp hi)))) ed_non rd_notN)) (by rw [tagD_isN]; cases t.getD i none <;> rfl)) (fun i x H1 _ e px _ => ed_var rfl px)) eds_nil) rcd_tuple).is ?_) fun v H1 e p => k v H1 e p
  rw [fill_eq]
  rfl
theorem sc__law_sort_key : FnScope ["_law_tags", "_law_one_here"] ["_law_tags"] (defScope st__law_sort_key) := ⟨rfl, rfl, rfl, by decide +kernel, rfl, by decide +kernel, by decide +kernel⟩
theorem ok__law_sort_key (T : Txt K mg) : FnOk P w K mg base CX0 1 T.d__law_sort_key.f T.d__law_sort_key.fd ["_law_tags"] (PureSp K fun ds res => ∃ (t : Tags), ds = [tagsD t] ∧ t.length ≤ 1000 ∧ res = rankD t) := by
  refine T.d__law_sort_key.F.ok sc__law_sort_key ?len (fun cdv A outer s H vs Q E hr h => ?_)
  case len =>
    rintro vs H Q E ⟨ds, d, h, ⟨t, rfl, _⟩, _⟩
    exact h.length
  obtain ⟨ds, res, hA, ⟨t, rfl, hl, rfl⟩, k⟩ := h
  obtain ⟨v, rfl, p⟩ := dpa1 hA
  refine ⟨_, (pss_one (ps_ret (pe_callTy (tupK (K := K)) (by rfl) T.b_tuple (by decide +kernel) (pa_cons (pe_lc (own := [("_law_one_here", 1)]) rfl sc__law_sort_key.nd (piTK (K := K) (pv 0)) (blkOk_by (own := [("_law_one_here", 1)]) (N := ["_law_tags", "_law_one_here"]) (sc := defScope st__law_sort_key) (by decide +kernel)) (fun _ _ _ _ _ => (pg_name (i := 1) sc__law_sort_key.nd rfl (by first | exact Or.inl rfl | exact Or.inr rfl))) (fun _ _ _ _ _ => pts_nil) (fun _ _ _ _ _ => (pe_ifExp (pt_cmpR op_isN (pv 1) pe_non (nomark _)) (pe_un un_neg pe_int) (pv 1)))) pa_nil)))), ?_⟩
  refine s_retD ((ed_cb (eds_cons (ed_lcY (xs := t) (enc := tagD) (w := fun c => .int (rankI c)) (fun H1 e => ei_tup (ed_var rfl (p.ex e))) (by omega) (fun _ _ => rfl) (fun _ => rfl)
    (fun c x H1 _ e px => ?_)) eds_nil) rcd_tuple).is (by show _ = PyData.tuple ((t.map rankI).map PyData.int); rw [List.map_map]; rfl)) fun v H1 e p => k v H1 e p
  cases c with
  | none => exact ed_if (x := true) (et_test (ed_op (ed_var rfl px) ed_non rd_isN)) (fun _ => ed_neg ed_int) fun h => nomatch h
  | some m => exact ed_if (x := false) (et_test (ed_op (ed_var rfl px) ed_non rd_isN)) (fun h => nomatch h) fun _ => ed_var rfl px
theorem sc__law_is_in : FnScope ["_law_one_here", "_law_two", "_law_k"] ["_law_one_here", "_law_two"] (defScope st__law_is_in) := ⟨rfl, rfl, rfl, by decide +kernel, rfl, by decide +kernel, by decide +kernel⟩
theorem ok__law_is_in (T : Txt K mg) : FnOk P w K mg base CX0 1 T.d__law_is_in.f T.d__law_is_in.fd ["_law_one_here", "_law_two"] (PureSp K fun ds res => ∃ (t u : Tags), ds = [tagsD t, tagsD u] ∧ t.length = u.length ∧ t.length ≤ 1000 ∧ res = .bool (inB t u)) := by
  refine T.d__law_is_in.F.ok sc__law_is_in ?len (fun cdv A outer s H vs Q E hr h => ?_)
  case len =>
    rintro vs H Q E ⟨ds, d, h, ⟨t, u, rfl, _⟩, _⟩
    exact h.length
  obtain ⟨ds, res, hA, ⟨t, u, rfl, htu, hl, rfl⟩, k⟩ := h
  obtain ⟨v, v2, rfl, p, p2⟩ := dpa2 hA
  refine ⟨_, (pss_one (ps_ret (pe_cmpR (eqEK (K := K) hr) (pe_lc (own := [("_law_k", 2)]) rfl sc__law_is_in.nd (pi_range1 (by rfl) T.b_range (pa_cons (pe_callB (lenK (K := K)) (by rfl) T.b_len (by decide +kernel) (pa_cons (pv 0) pa_nil)) pa_nil)) (blkOk_by (own := [("_law_k", 2)]) (N := ["_law_one_here", "_law_two", "_law_k"]) (sc := defScope st__law_is_in) (by decide +kernel)) (fun _ _ _ _ _ => (pg_name (i := 2) sc__law_is_in.nd rfl (by first | exact Or.inl rfl | exact Or.inr rfl))) (fun _ _ _ _ _ => pts_one (PW.pt (pw_and (pt_cmpR op_notN (pe_ix (ixTK (K := K)) (pv 0) (pv 2) (fun _ _ => rfl)) pe_non (nomark _)) (pw_and1 (pt_cmpR op_ne (pe_ix (ixTK (K := K)) (pv 0) (pv 2) (fun _ _ => rfl)) (pe_ix (ixTK (K := K)) (pv 1) (pv 2) (fun _ _ => rfl)) (nomark _)))))) (fun _ _ _ _ _ => (pv 2))) (pe_lst pa_nil) (nomark _)))), ?_⟩
  have hlen : (t.map tagD).length = t.length := List.length_map ..
  refine s_retD ((ed_op (ed_lc (xs := List.range t.length) (enc := nD) (f := fun i => (t.getD i none).isSome && !decide (t.getD i none = u.getD i none)) (w := nD) (fun H1 e => ei_rng (n := t.length) (eds_cons (ed_lenT (ed_var rfl (p.ex e))) eds_nil) (by omega)) (by rw [List.length_range]; omega) (fun _ _ _ => rfl) (fun _ => rfl)
    (fun i x H1 hi e px => et_and' (ET.is (et_test (ed_op (ed_op (ed_var rfl (p.ex e)) (ed_var rfl px) (rd_ixT (tags_get (List.mem_range.mp hi)))) ed_non rd_notN)) (by rw [tagD_isN]; cases t.getD i none <;> rfl)) fun _ => et_test (ed_op (ed_op (ed_var rfl (p.ex e)) (ed_var rfl px) (rd_ixT (tags_get (List.mem_range.mp hi)))) (ed_op (ed_var rfl (p2.ex e)) (ed_var rfl px) (rd_ixT (tags_get (by rw [← htu]; exact List.mem_range.mp hi)))) rd_neTag)) (fun i x H1 _ e px _ => ed_var rfl px))
    (ed_lst (ds := []) eds_nil (by show 0 ≤ 100000; decide)) rd_eqE).is ?_) fun v H1 e p => k v H1 e p
  unfold inB
  congr 1
  cases (List.range t.length).filter fun i => (t.getD i none).isSome && !decide (t.getD i none = u.getD i none) <;> rfl
theorem sc__law_worth : FnScope ["_law_book", "_law_rows", "_law_i", "_law_tag", "_law_c"] ["_law_book", "_law_rows", "_law_i", "_law_tag", "_law_c"] (defScope st__law_worth) := ⟨rfl, rfl, rfl, by decide +kernel, rfl, by decide +kernel, by decide +kernel⟩
theorem ok__law_worth (T : Txt K mg) : FnOk P w K mg base CX0 1 T.d__law_worth.f T.d__law_worth.fd ["_law_book", "_law_rows", "_law_i", "_law_tag", "_law_c"] (NSp K fun B ds res => ∃ (R : List (List (List Int))) (i k : Nat) (c : Int), ds = [dataD R, nD i, nD k, .int c] ∧ DataG B R ∧ i < B.length ∧ k < (R.getD i []).length ∧ c ∈ B.getD i [] ∧ res = .int (worthN B R i k c)) := by
  refine T.d__law_worth.F.ok sc__law_worth ?len (fun cdv A outer s H vs Q E hr h => ?_)
  case len =>
    rintro vs H Q E ⟨v0, rest, B, ds, d, rfl, _, h, ⟨R, i, k, c, rfl, _⟩, _⟩
    exact congrArg Nat.succ h.length
  obtain ⟨v0, rest, B, ds, res, rfl, hB, hA, ⟨R, i, kk, c, rfl, hD, hi, hkk, hc, rfl⟩, k⟩ := h
  obtain ⟨u1, u2, u3, u4, rfl, p1, p2, p3, p4⟩ := dpa4 hA
  refine ⟨_, (pss_one (ps_ret (pe_ix (ixTK (K := K)) (pe_ix (ixTK (K := K)) (pe_ix (ixTK (K := K)) (pv 1) (pv 2) (fun _ _ => rfl)) (pv 3) (fun _ _ => rfl)) (pe_tindex (pe_ix (ixTK (K := K)) (pv 0) (pv 2) (fun _ _ => rfl)) (pv 4)) (fun _ _ => rfl)))), ?_⟩
  have hiR : i < R.length := by rw [hD.len]; exact hi
  refine s_retD (ed_op (ed_op (ed_op (ed_var rfl p1) (ed_var rfl p2) (rd_ixT (dget hiR))) (ed_var rfl p3) (rd_ixT (rows_get hkk))) (ed_tix (eb_var rfl hB) (ed_var rfl p2) (getD_of hi) (ed_var rfl p4) hc) (rd_ixT ?_)) fun v H1 e p => k v H1 e p
  have : idxI c (B.getD i []) < ((R.getD i []).getD kk []).length := by rw [hD.rowlen hkk]; exact idxI_lt hc
  rw [List.getElem?_map, getD_of this]; rfl
theorem sc__law_is_agreed : FnScope ["_law_book", "_law_rows", "_law_i", "_law_one_here", "_law_j", "_law_two", "_law_c"] ["_law_book", "_law_rows", "_law_i", "_law_one_here", "_law_j", "_law_two"] (defScope st__law_is_agreed) := ⟨rfl, rfl, rfl, by decide +kernel, rfl, by decide +kernel, by decide +kernel⟩
theorem ok__law_is_agreed (T : Txt K mg) : FnOk P w K mg base CX0 2 T.d__law_is_agreed.f T.d__law_is_agreed.fd ["_law_book", "_law_rows", "_law_i", "_law_one_here", "_law_j", "_law_two"] (NSp K fun B ds res => ∃ (R : List (List (List Int))) (i j a b : Nat), ds = [dataD R, nD i, nD a, nD j, nD b] ∧ DataG B R ∧ i < B.length ∧ j < B.length ∧ a < (R.getD i []).length ∧ b < (R.getD j []).length ∧ res = .bool (agreeB B R i a j b)) := by
  refine T.d__law_is_agreed.F.ok sc__law_is_agreed ?len (fun cdv A outer s H vs Q E hr h => ?_)
  case len =>
    rintro vs H Q E ⟨v0, rest, B, ds, d, rfl, _, h, ⟨R, i, j, a, b, rfl, _⟩, _⟩
    exact congrArg Nat.succ h.length
  obtain ⟨v0, rest, B, ds, res, rfl, hB, hA, ⟨R, i, j, a, b, rfl, hD, hi, hj, ha, hb, rfl⟩, k⟩ := h
  obtain ⟨u1, u2, u3, u4, u5, rfl, p1, p2, p3, p4, p5⟩ := dpa5 hA
  refine ⟨_, (pss_cons (ps_for PassesOwn.never rfl (piTK (K := K) (pe_call (ok__law_common_columns (P := P) (w := w) T) (hr.mono (by decide)) (by rfl) T.d__law_common_columns.g T.d__law_common_columns.F.kp T.d__law_common_columns.b .nil pass0 (pa_cons (pv 0) (pa_cons (pv 2) (pa_cons (pv 4) pa_nil))))) (pg_name (i := 6) sc__law_is_agreed.nd rfl (by first | exact Or.inl rfl | exact Or.inr rfl))
      (pss_one (ps_if (pt_cmpR op_ne (pe_call (ok__law_worth (P := P) (w := w) T) (hr.mono (by decide)) (by rfl) T.d__law_worth.g T.d__law_worth.F.kp T.d__law_worth.b .nil pass0 (pa_cons (pv 0) (pa_cons (pv 1) (pa_cons (pv 2) (pa_cons (pv 3) (pa_cons (pv 6) pa_nil)))))) (pe_call (ok__law_worth (P := P) (w := w) T) (hr.mono (by decide)) (by rfl) T.d__law_worth.g T.d__law_worth.F.kp T.d__law_worth.b .nil pass0 (pa_cons (pv 0) (pa_cons (pv 1) (pa_cons (pv 4) (pa_cons (pv 5) (pa_cons (pv 6) pa_nil)))))) (nomark _))
        (pss_one (ps_ret pe_bl))
        pss_nil)))
      (pss_one (ps_ret pe_bl))), ?_⟩
  have h1 : (commonI B i j).length ≤ (B.getD i []).length := List.length_filter_le _ _
  have h2 := schB_len (hD.book.2.2 _ (getD_mem hi))
  refine q_find1 (K := K) (xs := commonI B i j) (enc := PyData.int) (p := fun c => !decide (worthN B R i a c = worthN B R j b c)) (r := fun _ => .bool false) (ei_tup (ed_call (eds_cons (ed_var rfl hB.dp) (eds_cons (ed_var rfl p2) (eds_cons (ed_var rfl p4) eds_nil))) ⟨B, i, j, rfl, hD.book, hi, hj, rfl⟩)) rfl
    (fun c x H1 hc e px => ?_) (fun c x H1 hc hp e px => ed_bl) (fun m c v H1 hf hm e pv => ?_) fun o H1 hf e => ?_
  · obtain ⟨hc1, hc2⟩ := commonI_mem.mp hc
    exact et_test (ed_op (ed_callN (eb_var rfl (hB.ex e)) (eds_cons (ed_var rfl (p1.ex e)) (eds_cons (ed_var rfl (p2.ex e)) (eds_cons (ed_var rfl (p3.ex e)) (eds_cons (ed_var rfl px) eds_nil)))) ⟨R, i, a, c, rfl, hD, hi, ha, hc1, rfl⟩)
      (ed_callN (eb_var rfl (hB.ex e)) (eds_cons (ed_var rfl (p1.ex e)) (eds_cons (ed_var rfl (p4.ex e)) (eds_cons (ed_var rfl (p5.ex e)) (eds_cons (ed_var rfl px) eds_nil)))) ⟨R, j, b, c, rfl, hD, hj, hb, hc2, rfl⟩) rd_neI)
  · have : agreeB B R i a j b = false := by
      obtain ⟨c', hc', hp⟩ := findIdx_some hf
      rw [hm] at hc'; cases hc'
      refine Bool.eq_false_iff.mpr fun h => ?_
      have := List.all_eq_true.mp h c (List.mem_of_getElem? hm)
      rw [this] at hp; cases hp
    rw [this] at k
    exact k v H1 e pv
  · have : agreeB B R i a j b = true := by
      refine List.all_eq_true.mpr fun c hc => ?_
      have := List.findIdx?_eq_none_iff.mp hf c hc
      simpa using this
    rw [this] at k
    exact s_retD (K := K) ed_bl fun v H2 e2 pv => k v H2 (e.trans e2) pv
end
end BB
/-! G4: two new lists to two names. -/
namespace BB
open PySem L2 Evl LamX
section
variable {K : PySem.W.Frag} {σ : L2.St} {H : Hp} {D : Ends} {tz : TS} {ta tb : TE} {ds es : List PyData} {d : PyData} {l : Addr} {i j m : Nat}
theorem q_par2 (ha : EL K ta σ H ds) (hb : ∀ H1, Ex H H1 → EL K tb σ H1 es) (k : ∀ l m H2, Ex H H2 → H l = none → H m = none → l ≠ m → ML K H2 l ds → ML K H2 m es → tz D ((σ.set i (some (.ref l))).set j (some (.ref m))) H2) :
    tSeq (tPar i j (tCons ta (tCons tb tNil))) tz D σ H :=
  ha H (Ex.refl _) _ fun p xs H1 hp e1 h1 d1 => hb H1 e1 H1 (Ex.refl _) _ fun q ys H2 hq e2 h2 d2 => ⟨_, _, rfl, k p q H2 (e1.trans e2) hp (fresh_back e1 hq) (fun z => by rw [← z, h1] at hq; cases hq) ⟨xs, e2 _ _ h1, d1.ex e2⟩ ⟨ys, h2, d2⟩⟩
theorem q_newPop (hl : ML K H l (d :: ds)) (hi : σ[m]? = some (some (.ref l))) (hs : stayAll ds = true) (hd : stay d = true)
    (k : ∀ lp le H2, H lp = none → H le = none → lp ≠ le → (∃ Hm, Step l H Hm ∧ Ex Hm H2) → ML K H2 l ds → ML K H2 lp [] → ML K H2 le [d] → tz D ((σ.set i (some (.ref lp))).set j (some (.ref le))) H2) :
    tSeq (tAsg (tTup (tCons (tLst tNil) (tCons (tLst (tCons (tBM K "list" rPopAt (tVar m) (tCons (tC (.int 0)) tNil)) tNil)) tNil))) (gTup K 2 (gCons (gName i) (gCons (gName j) gNil)))) tz D σ H := by
  obtain ⟨xs, h1, h2⟩ := hl
  obtain ⟨v, vs, rfl, p, ps⟩ : ∃ v vs, xs = v :: vs ∧ Dp K H v d ∧ DpAll K H vs ds := by
    cases h2 with
    | cons p ps => exact ⟨_, _, rfl, p, ps⟩
  refine ⟨Nat.zero_le _, fun lp hlp => ?_⟩
  have hne : l ≠ lp := fun z => by rw [z, hlp] at h1; cases h1
  have h1' : upd H lp (.lst []) l = some (.lst (v :: vs)) := by rw [upd_ne hne]; exact h1
  refine ⟨_, hi, Or.inl ⟨rfl, v :: vs, sq_of h1'⟩, l, v :: vs, 0, 0, v, rfl, rfl, h1', by decide, by decide, ?_, rfl, ?_⟩
  · simp [seqIndex?]
  have st : Step l H (upd (upd H lp (.lst [])) l (.lst vs)) := ⟨upd H lp (.lst []), v :: vs, vs, Ex.new hlp, h1', rfl⟩
  refine ⟨by show 1 ≤ sizeLine; exact sz_of (by decide), fun le hle => ?_⟩
  refine ⟨by show 2 ≤ sizeLine; exact sz_of (by decide), fun pt hpt => ?_⟩
  have hle' : H le = none ∧ le ≠ lp ∧ le ≠ l := by
    have hle : upd (upd H lp (.lst [])) l (.lst vs) le = none := hle
    by_cases q : le = l
    · rw [q, upd_same] at hle; cases hle
    · rw [upd_ne q] at hle
      by_cases q2 : le = lp
      · rw [q2, upd_same] at hle; cases hle
      · rw [upd_ne q2] at hle; exact ⟨hle, q2, q⟩
  have e1 : Ex (upd (upd H lp (.lst [])) l (.lst vs)) (upd (upd (upd H lp (.lst [])) l (.lst vs)) le (.lst [v])) := Ex.new hle
  have e2 := e1.trans (Ex.new (o := .tup [.ref lp, .ref le]) hpt)
  refine ⟨pt, [.ref lp, .ref le], rfl, .inl (.inl upd_same), rfl, _, _, rfl, _, _, rfl, rfl, ?_⟩
  refine k lp le _ hlp hle'.1 (Ne.symm hle'.2.1) ⟨_, st, e2⟩ ⟨vs, e2 _ _ upd_same, ?_⟩ ⟨[], e2 _ _ (by rw [upd_ne (Ne.symm hne)]; exact upd_same), .nil⟩ ⟨[v], Ex.new hpt _ _ upd_same, .cons ?_ .nil⟩
  · exact (dpa_tk st.tk _ _ hs ps).ex e2
  · exact (dp_tk st.tk _ _ hd p).ex e2
end
end BB
/-! M5: the law's search for pieces, plainly. -/
namespace BB
section
variable {nr : Nat → Nat → Bool} {g g0 piece edge e1 left r : List Nat} {s here n : Nat}
/-- one piece under way -/
structure Pw (nr : Nat → Nat → Bool) (g0 : List Nat) (s : Nat) (piece edge left : List Nat) : Prop where
  mem : ∀ x ∈ left, x ∈ g0
  vis : ∀ x, x ∈ piece ∨ x ∈ edge → Rch nr g0 s x ∧ x ∈ g0
  cov : ∀ x ∈ g0, x ∈ piece ∨ x ∈ edge ∨ x ∈ left
  far : ∀ p ∈ piece, ∀ i ∈ left, nr p i = false
  dis : ∀ x ∈ left, x ∉ piece ∧ x ∉ edge
  st : s ∈ piece ∨ s ∈ edge
  nod : left.Nodup
theorem Pw.init (hn : (s :: r).Nodup) : Pw nr (s :: r) s [] [s] r := by
  rw [List.nodup_cons] at hn
  refine ⟨fun x hx => List.mem_cons_of_mem _ hx, fun x hx => ?_, fun x hx => ?_, fun p hp => (by cases hp), fun x hx => ⟨by simp, fun h => ?_⟩, .inr (by simp), hn.2⟩
  · rcases hx with h | h
    · cases h
    · rw [List.mem_singleton.mp h]; exact ⟨.base, by simp⟩
  · rcases List.mem_cons.mp hx with h | h
    · exact .inr (.inl (by simp [h]))
    · exact .inr (.inr h)
  · rw [List.mem_singleton.mp h] at hx
    exact hn.1 hx
def nearL (nr : Nat → Nat → Bool) (here : Nat) (left : List Nat) : List Nat := left.filter fun i => nr here i
def restL (edge left : List Nat) : List Nat := left.filter fun i => !decide (i ∈ edge)
theorem Pw.turn (h : Pw nr g0 s piece (e1 ++ [here]) left) : Pw nr g0 s (piece ++ [here]) (e1 ++ nearL nr here left) (restL (e1 ++ nearL nr here left) left) := by
  have hin : ∀ {x}, x ∈ restL (e1 ++ nearL nr here left) left → x ∈ left ∧ x ∉ e1 ++ nearL nr here left := fun {x} hx => by
    obtain ⟨h1, h2⟩ := List.mem_filter.mp hx
    exact ⟨h1, by simpa using h2⟩
  have hh := h.vis here (.inr (by simp))
  refine ⟨fun x hx => h.mem x (hin hx).1, fun x hx => ?_, fun x hx => ?_, fun p hp i hi => ?_, fun x hx => ⟨fun hp => ?_, (hin hx).2⟩, ?_, h.nod.filter _⟩
  · rcases hx with hx | hx
    · rcases List.mem_append.mp hx with q | q
      · exact h.vis x (.inl q)
      · rw [List.mem_singleton.mp q]; exact hh
    · rcases List.mem_append.mp hx with q | q
      · exact h.vis x (.inr (List.mem_append_left _ q))
      · obtain ⟨h1, h2⟩ := List.mem_filter.mp q
        exact ⟨.step hh.1 (h.mem x h1) h2, h.mem x h1⟩
  · rcases h.cov x hx with q | q | q
    · exact .inl (List.mem_append_left _ q)
    · rcases List.mem_append.mp q with q | q
      · exact .inr (.inl (List.mem_append_left _ q))
      · exact .inl (List.mem_append_right _ q)
    · by_cases hm : x ∈ e1 ++ nearL nr here left
      · exact .inr (.inl hm)
      · exact .inr (.inr (List.mem_filter.mpr ⟨q, by simpa using hm⟩))
  · obtain ⟨h1, h2⟩ := hin hi
    rcases List.mem_append.mp hp with q | q
    · exact h.far p q i h1
    · rw [List.mem_singleton.mp q]
      cases hn : nr here i with
      | false => rfl
      | true => exact absurd (List.mem_append_right _ (List.mem_filter.mpr ⟨h1, hn⟩)) h2
  · obtain ⟨h1, h2⟩ := hin hx
    obtain ⟨d1, d2⟩ := h.dis x h1
    rcases List.mem_append.mp hp with q | q
    · exact d1 q
    · exact d2 (List.mem_append_right _ q)
  · rcases h.st with q | q
    · exact .inl (List.mem_append_left _ q)
    · rcases List.mem_append.mp q with q | q
      · exact .inr (List.mem_append_left _ q)
      · exact .inl (List.mem_append_right _ q)
theorem Pw.cnt (h : Pw nr g0 s piece (e1 ++ [here]) left) : (restL (e1 ++ nearL nr here left) left).length + (nearL nr here left).length = left.length := by
  have e : restL (e1 ++ nearL nr here left) left = left.filter fun i => !nr here i := by
    refine List.filter_congr fun i hi => ?_
    have h1 : i ∉ e1 := fun q => (h.dis i hi).2 (List.mem_append_left _ q)
    have h2 : i ∈ e1 ++ nearL nr here left ↔ nr here i = true := by
      rw [List.mem_append]
      exact ⟨fun q => q.elim (fun q => absurd q h1) fun q => (List.mem_filter.mp q).2, fun q => .inr (List.mem_filter.mpr ⟨hi, q⟩)⟩
    by_cases q : nr here i = true
    · rw [decide_eq_true (h2.mpr q), q]
    · rw [decide_eq_false (fun z => q (h2.mp z)), eq_false_of_ne_true q]
  rw [e]
  unfold nearL
  clear h e
  induction left with
  | nil => rfl
  | cons a l ih =>
    rw [List.filter_cons, List.filter_cons]
    cases nr here a
    · simp; omega
    · simp; omega
theorem Pw.done (h : Pw nr g0 s piece [] left) : left = [] ↔ ∀ x ∈ g0, Rch nr g0 s x := by
  constructor
  · intro e x hx
    subst e
    rcases h.cov x hx with q | q | q
    · exact (h.vis x (.inl q)).1
    · cases q
    · cases q
  · intro hr
    have key : ∀ x, Rch nr g0 s x → x ∈ piece := fun x r => by
      induction r with
      | base => exact h.st.elim id fun q => by cases q
      | @step y z ry hz hn ih =>
        rcases h.cov z hz with q | q | q
        · exact q
        · cases q
        · rw [h.far y ih z q] at hn; cases hn
    rw [List.eq_nil_iff_forall_not_mem]
    intro x hx
    exact (h.dis x hx).1 (key x (hr x (h.mem x hx)))
/-- all pieces under way -/
def Po (nr : Nat → Nat → Bool) (g : List Nat) (n : Nat) (L : List Nat) : Prop := (n = 0 ∧ L = g) ∨ (n = 1 ∧ (L = [] ↔ Hung nr g)) ∨ (2 ≤ n ∧ ¬ Hung nr g)
theorem Po.next (h : Po nr g n (s :: r)) (d : Pw nr (s :: r) s piece [] left) : Po nr g (n + 1) left := by
  rcases h with ⟨rfl, rfl⟩ | ⟨rfl, h⟩ | ⟨hn, h⟩
  · refine .inr (.inl ⟨rfl, d.done.trans ⟨fun hr => ⟨s, r, rfl, hr⟩, fun ⟨s', r', e, hr⟩ => ?_⟩⟩)
    cases e
    exact hr
  · exact .inr (.inr ⟨Nat.le_refl _, fun q => absurd (h.mpr q) (by simp)⟩)
  · exact .inr (.inr ⟨by omega, h⟩)
theorem Po.done (h : Po nr g n []) : n = 1 ↔ Hung nr g := by
  rcases h with ⟨rfl, rfl⟩ | ⟨rfl, h⟩ | ⟨hn, h⟩
  · exact ⟨fun q => (by cases q), fun ⟨s, r, e, _⟩ => (by cases e)⟩
  · exact ⟨fun _ => h.mp rfl, fun _ => rfl⟩
  · exact ⟨fun q => by omega, fun q => absurd q h⟩
end
end BB
/-! L2: the law's pieces. -/
namespace BB
open PySem L2 Evl LamX
theorem stay_cons {d : PyData} {ds : List PyData} (h : stayAll (d :: ds) = true) : stay d = true ∧ stayAll ds = true := ⟨stayAll_iff.mp h d List.mem_cons_self, stayAll_iff.mpr fun x hx => stayAll_iff.mp h x (List.mem_cons_of_mem _ hx)⟩
theorem stay_nD (n : Nat) : stay (nD n) = true := rfl
theorem Rch.inn {nr : Nat → Nat → Bool} {g : List Nat} {s x : Nat} (h : Rch nr g s x) (hs : s ∈ g) : x ∈ g := by
  cases h with
  | base => exact hs
  | step _ h _ => exact h
section
variable {P : Program} {w : World} {K : PySem.W.Frag} {mg : Str → Option Value} {base : Heap}
theorem sc__law_pieces_of : FnScope ["_law_book", "_law_lot", "_law_left_over", "_law_found", "_law_piece", "_law_edge", "_law_here", "_law_i"] ["_law_book", "_law_lot"] (defScope st__law_pieces_of) := ⟨rfl, rfl, rfl, by decide +kernel, rfl, by decide +kernel, by decide +kernel⟩
theorem ok__law_pieces_of (T : Txt K mg) : FnOk P w K mg base CX0 3 T.d__law_pieces_of.f T.d__law_pieces_of.fd ["_law_book", "_law_lot"] (RelSp K argG (fun i => GrpOk i.1 i.2 ∧ i.2.Nodup) (fun i d => ∃ ps : List (List Nat), d = .tuple (grpsD ps) ∧ (ps.length = 1 ↔ Hung (nearB i.1) i.2))) := by
  refine T.d__law_pieces_of.F.ok sc__law_pieces_of ?len (fun cdv A outer s H vs Q E hr h => ?_)
  case len =>
    rintro vs H Q E ⟨ds, h, _⟩
    exact h.length
  obtain ⟨⟨B, g⟩, hA, ⟨hG, hnd⟩, k⟩ := h
  obtain ⟨v, u, rfl, p, q⟩ := dpa2 hA
  simp only at hG k hnd
  refine ⟨_, (pss_cons (ps_par (i := 2) (j := 3) rfl sc__law_pieces_of.nd rfl rfl (by decide) rfl rfl (pa_cons (pe_callTy (listK (K := K)) (by rfl) T.b_list (by decide +kernel) (pa_cons (pv 1) pa_nil)) (pa_cons (pe_lst pa_nil) pa_nil)) (by rfl))
      (pss_cons (ps_while PassesOwn.never (pt_cmpR (neEK (K := K) hr) (pv 2) (pe_lst pa_nil) (nomark _))
      (pss_cons (ps_asg (pe_tup (pa_cons (pe_lst pa_nil) (pa_cons (pe_lst (pa_cons (pe_bm PySem.F.plainAttrs_list PySem.F.slot_list_pop PySem.F.type_list_pop mt_popAt (pv 2) (pa_cons pe_int pa_nil)) pa_nil)) pa_nil))) (pgTK (K := K) (n := 2) rfl (pgs_cons (pg_name (i := 4) sc__law_pieces_of.nd rfl (by first | exact Or.inl rfl | exact Or.inr rfl)) (pgs_cons (pg_name (i := 5) sc__law_pieces_of.nd rfl (by first | exact Or.inl rfl | exact Or.inr rfl)) pgs_nil))))
        (pss_cons (ps_while PassesOwn.never (pt_cmpR (neEK (K := K) hr) (pv 5) (pe_lst pa_nil) (nomark _))
        (pss_cons (ps_set (i := 6) sc__law_pieces_of.nd rfl (by first | exact Or.inl rfl | exact Or.inr rfl) (pe_bm0 PySem.F.plainAttrs_list PySem.F.slot_list_pop PySem.F.type_list_pop mt_pop (pv 5)))
          (pss_cons (ps_expr (pe_bm PySem.F.plainAttrs_list PySem.F.slot_list_append PySem.F.type_list_append mt_append (pv 4) (pa_cons (pv 6) pa_nil)))
          (pss_cons (ps_expr (pe_bm PySem.F.plainAttrs_list PySem.F.slot_list_extend PySem.F.type_list_extend mt_extend (pv 5) (pa_cons (pe_lc (own := [("_law_i", 7)]) rfl sc__law_pieces_of.nd (piLK (K := K) (pv 2)) (blkOk_by (own := [("_law_i", 7)]) (N := ["_law_book", "_law_lot", "_law_left_over", "_law_found", "_law_piece", "_law_edge", "_law_here", "_law_i"]) (sc := defScope st__law_pieces_of) (by decide +kernel)) (fun _ _ _ _ _ => (pg_name (i := 7) sc__law_pieces_of.nd rfl (by first | exact Or.inl rfl | exact Or.inr rfl))) (fun _ _ _ _ _ => pts_one (pt_val (pe_call (ok__law_are_near (P := P) (w := w) T) (hr.mono (by decide)) (by rfl) T.d__law_are_near.g T.d__law_are_near.F.kp T.d__law_are_near.b .nil pass0 (pa_cons (pv 0) (pa_cons (pv 6) (pa_cons (pv 7) pa_nil)))))) (fun _ _ _ _ _ => (pv 7))) pa_nil)))
          (pss_one (ps_setLc (i := 2) (own := [("_law_i", 7)]) rfl sc__law_pieces_of.nd rfl rfl (sw_true rfl rfl rfl (by decide +kernel)) (piLK (K := K) (pv 2)) (blkOk_by (own := [("_law_i", 7)]) (N := ["_law_book", "_law_lot", "_law_left_over", "_law_found", "_law_piece", "_law_edge", "_law_here", "_law_i"]) (sc := defScope st__law_pieces_of) (by decide +kernel)) (fun _ _ _ _ _ => (pg_name (i := 7) sc__law_pieces_of.nd rfl (by first | exact Or.inl rfl | exact Or.inr rfl))) (fun _ _ _ _ _ => pts_one (pt_cmpR (niK (K := K)) (pv 7) (pv 5) (by rfl))) (fun _ _ _ _ _ => (pv 7))))))))
        (pss_one (ps_expr (pe_bm PySem.F.plainAttrs_list PySem.F.slot_list_append PySem.F.type_list_append mt_append (pv 3) (pa_cons (pe_callTy (tupK (K := K)) (by rfl) T.b_tuple (by decide +kernel) (pa_cons (pe_callB (srtK (K := K)) (by rfl) T.b_sorted (by decide +kernel) (pa_cons (pv 4) pa_nil)) pa_nil)) pa_nil)))))))
      (pss_one (ps_ret (pe_callTy (tupK (K := K)) (by rfl) T.b_tuple (by decide +kernel) (pa_cons (pv 3) pa_nil)))))), ?_⟩
  have hfew : g.length ≤ 1000 := hG.few
  refine q_par2 (K := K) (ds := g.map nD) (es := []) (el_cb (eds_cons (ed_var rfl q) eds_nil) rcl_listT) (fun H1 e1 => el_lst eds_nil (by show 0 ≤ 100000; decide)) fun ll lf H1 e1 hll hlf hne m1 mf => ?_
  refine q_while (fun m σ' H' => ∃ (ll : Addr) (L : List Nat) (fs : List (List Nat)) (o4 o5 o6 o7 : Option V), Ex H H' ∧ H ll = none ∧ ll ≠ lf ∧ ML K H' ll (L.map nD) ∧ ML K H' lf (grpsD fs) ∧ Po (nearB B) g fs.length L ∧ L.Nodup ∧ (∀ x ∈ L, x ∈ g) ∧ fs.length + L.length ≤ g.length ∧ m = L.length ∧ σ' = [some v, some u, some (.ref ll), some (.ref lf), o4, o5, o6, o7]) g.length
    ⟨ll, g, [], none, none, none, none, e1, hll, hne, m1, mf, .inl ⟨rfl, rfl⟩, hnd, fun x h => h, by simp, rfl, rfl⟩ ?_
  rintro m σ' H' ⟨ll, L, fs, o4, o5, o6, o7, e, hll0, hlne, mL, mF, po, hLn, hLg, hcnt, rfl, rfl⟩
  refine ⟨!(L.map nD).isEmpty, et_test (ed_op (mL.ed rfl) (ed_lst (ds := []) eds_nil (by show 0 ≤ 100000; decide)) rd_neE), fun hx H3 e3 => ?_, fun hx H3 e3 => ?_⟩
  · cases L with
    | nil => cases hx
    | cons s r =>
    have hr1 : r.length + 1 ≤ g.length := by rw [List.length_cons] at hcnt; omega
    refine ⟨_, fun σ2 H2 h => h, ?_⟩
    refine q_newPop (K := K) (mL.ex e3) rfl (stay_nats r) (stay_nD s) fun lp le H4 hlp hle hpe ⟨Hm, stm, em⟩ mr mp me => ?_
    have e04 : Ex H H4 := (stm.ex0 (e.trans e3) hll0).trans em
    have hlp0 : H lp = none := fresh_back (e.trans e3) hlp
    have hle0 : H le = none := fresh_back (e.trans e3) hle
    have hll3 : ∃ o, H3 ll = some o := let ⟨xs, h, _⟩ := mL.ex e3; ⟨_, h⟩
    have hlf3 : ∃ o, H3 lf = some o := let ⟨xs, h, _⟩ := mF.ex e3; ⟨_, h⟩
    have nn : ∀ {a b : Addr}, (∃ o, H3 a = some o) → H3 b = none → a ≠ b := fun {a b} ⟨o, h⟩ h2 z => by rw [z, h2] at h; cases h
    have mF4 : ML K H4 lf (grpsD fs) := (stm.ml (Ne.symm hlne) (mF.ex e3) (stay_grps fs)).ex em
    -- one piece
    refine q_while (fun m σ' H' => ∃ (l2 : Addr) (pc ed lft : List Nat) (o6 o7 : Option V), Ex H H' ∧ H l2 = none ∧ l2 ≠ lf ∧ l2 ≠ lp ∧ l2 ≠ le ∧ ML K H' l2 (lft.map nD) ∧ ML K H' lf (grpsD fs) ∧ ML K H' lp (pc.map nD) ∧ ML K H' le (ed.map nD) ∧ Pw (nearB B) (s :: r) s pc ed lft ∧ pc.length + ed.length + lft.length = r.length + 1 ∧ lft.length ≤ r.length ∧ m = ed.length + lft.length ∧ σ' = [some v, some u, some (.ref l2), some (.ref lf), some (.ref lp), some (.ref le), o6, o7]) (1 + r.length)
      ⟨ll, [], [s], r, o6, o7, e04, hll0, hlne, nn hll3 hlp, nn hll3 hle, mr, mF4, mp, me, .init hLn, by simp; omega, Nat.le_refl _, rfl, rfl⟩ ?_
    rintro m σ' H' ⟨l2, pc, ed, lft, o6, o7, e5, hl20, h2f, h2p, h2e, m2, mF5, mp5, me5, pw, hct, hll5, rfl, rfl⟩
    refine ⟨!(ed.map nD).isEmpty, et_test (ed_op (me5.ed rfl) (ed_lst (ds := []) eds_nil (by show 0 ≤ 100000; decide)) rd_neE), fun hx H6 e6 => ?_, fun hx H6 e6 => ?_⟩
    · have hene : ed ≠ [] := by rintro rfl; simp at hx
      obtain ⟨e1', here, rfl⟩ : ∃ w1 here, ed = w1 ++ [here] := ⟨ed.dropLast, ed.getLast hene, (List.dropLast_concat_getLast hene).symm⟩
      have hhg : here ∈ g := hLg here (pw.vis here (.inr (by simp))).2
      have hhB : here < B.length := hG.inn here hhg
      have hcn := pw.cnt
      rw [List.length_append, List.length_singleton] at hct
      refine ⟨_, fun σ2 H2 h => h, ?_⟩
      have me6 := me5.ex e6
      rw [List.map_append] at me6
      refine q_popD me6 rfl (stay_nats _) rfl fun hv H7 st7 me7 ph => ?_
      have e07 : Ex H H7 := st7.ex0 (e5.trans e6) hle0
      have mp7 := st7.ml hpe (mp5.ex e6) (stay_nats _)
      have mF7 := st7.ml (nn hlf3 hle) (mF5.ex e6) (stay_grps fs)
      have m27 := st7.ml h2e (m2.ex e6) (stay_nats _)
      refine q_appD (K := K) mp7 rfl (stay_nats _) (ed_var rfl ph) rfl (by rw [List.length_map]; omega) fun H8 st8 mp8 => ?_
      have e08 : Ex H H8 := st8.ex0 e07 hlp0
      have me8 := st8.ml (Ne.symm hpe) me7 (stay_nats _)
      have mF8 := st8.ml (nn hlf3 hlp) mF7 (stay_grps fs)
      have m28 := st8.ml h2p m27 (stay_nats _)
      have ph8 : Dp K H8 hv (nD here) := dp_tk st8.tk _ _ rfl ph
      have hnl : (nearL (nearB B) here lft).length ≤ lft.length := List.length_filter_le _ _
      refine q_extD (K := K) (es := (nearL (nearB B) here lft).map nD) me8 rfl (stay_nats _) (EL.src (el_lc (xs := lft) (enc := nD) (f := fun i => nearB B here i) (w := nD) (fun H9 e9 => ei_lst ((m28.ex e9).ed rfl)) (by omega) (fun _ _ _ => rfl) (fun _ => rfl)
        (fun i x H9 hi e9 px => et_B (ed_call (eds_cons (ed_var rfl (p.ex (e08.trans e9))) (eds_cons (ed_var rfl (ph8.ex e9)) (eds_cons (ed_var rfl px) eds_nil))) ⟨B, here, i, rfl, hG.book, hhB, hG.inn i (hLg i (pw.mem i hi)), rfl⟩))
        (fun i x H9 hi e9 px _ => ed_var rfl px))) (stay_nats _) (by rw [List.length_map, List.length_map]; omega) fun H9 st9 me9 => ?_
      rw [← List.map_append] at me9
      have e09 : Ex H H9 := st9.ex0 e08 hle0
      have mp9 := st9.ml hpe mp8 (by rw [← List.map_singleton, ← List.map_append]; exact stay_nats _)
      have mF9 := st9.ml (nn hlf3 hle) mF8 (stay_grps fs)
      have m29 := st9.ml h2e m28 (stay_nats _)
      refine s_asgE (K := K) (el_lc (xs := lft) (enc := nD) (f := fun i => !decide (i ∈ e1' ++ nearL (nearB B) here lft)) (w := nD) (fun H10 e10 => ei_lst ((m29.ex e10).ed rfl)) (by omega) (fun _ _ _ => rfl) (fun _ => rfl)
        (fun i x H10 hi e10 px => et_test (ed_op (ed_var rfl px) ((me9.ex e10).ed rfl) rd_niLN)) (fun i x H10 hi e10 px _ => ed_var rfl px)) fun l3 H10 e10 hl3 m3 => ?_
      have nx : ∀ {a : Addr} {ds : List PyData}, ML K H9 a ds → l3 ≠ a := fun {a ds} h z => h.ne hl3 z.symm
      rw [show (pc.map nD ++ [nD here] : List PyData) = (pc ++ [here]).map nD from by rw [List.map_append]; rfl] at mp9
      refine ⟨_, ?_, l3, pc ++ [here], e1' ++ nearL (nearB B) here lft, restL (e1' ++ nearL (nearB B) here lft) lft, _, _, e09.trans e10, fresh_back e09 hl3, nx mF9, nx mp9, nx me9, m3, mF9.ex e10, mp9.ex e10, me9.ex e10, pw.turn, ?_, ?_, rfl, rfl⟩
      · rw [List.length_append, List.length_append]
        simp only [List.length_singleton]
        omega
      · rw [List.length_append, List.length_append, List.length_singleton]
        omega
      · omega
    · have : ed = [] := by cases ed with
        | nil => rfl
        | cons _ _ => simp at hx
      subst this
      refine s_appD (K := K) (d := natsD (srtN pc)) (mF5.ex e6) rfl (stay_grps fs) (ed_cb (eds_cons (EL.ed (el_cb (eds_cons ((mp5.ex e6).ed rfl) eds_nil) rcl_sortedN)) eds_nil) rcd_tuple) (stay_tupled _ (tupled_nats _)) (by show (fs.map natsD).length < 100000; rw [List.length_map]; omega) fun H7 st7 mF7 => ?_
      refine ⟨_, ?_, l2, lft, fs ++ [srtN pc], _, _, _, _, st7.ex0 (e5.trans e6) hlf, hl20, h2f, st7.ml h2f (m2.ex e6) (stay_nats _), ?_, ?_, pw.nod, fun x hx => hLg x (pw.mem x hx), ?_, rfl, rfl⟩
      · rw [List.length_cons]; omega
      · show ML K H7 lf ((fs ++ [srtN pc]).map natsD)
        rw [List.map_append]; exact mF7
      · rw [List.length_append, List.length_singleton]
        exact po.next pw
      · rw [List.length_append, List.length_singleton]
        rw [List.length_cons] at hcnt
        omega
  · have : L = [] := by cases L with
      | nil => rfl
      | cons _ _ => simp at hx
    subst this
    exact s_retD (ed_cb (eds_cons ((mF.ex e3).ed rfl) eds_nil) rcd_tuple) fun z H4 e4 pz => k _ z H4 ⟨fs, rfl, po.done⟩ ((e.trans e3).trans e4) pz
end
end BB
/-! L3: the law's lots. -/
namespace BB
open PySem L2 Evl LamX
theorem haveN_nodup (t : Tags) : (haveN t).Nodup := by
  rw [← fill_eq]
  exact List.nodup_range.filter _
section
variable {P : Program} {w : World} {K : PySem.W.Frag} {mg : Str → Option Value} {base : Heap}
theorem sc__law_is_hung : FnScope ["_law_book", "_law_lot"] ["_law_book", "_law_lot"] (defScope st__law_is_hung) := ⟨rfl, rfl, rfl, by decide +kernel, rfl, by decide +kernel, by decide +kernel⟩
theorem ok__law_is_hung (T : Txt K mg) : FnOk P w K mg base CX0 4 T.d__law_is_hung.f T.d__law_is_hung.fd ["_law_book", "_law_lot"] (PureSp K fun ds res => ∃ B g, ds = [bookD B, natsD g] ∧ GrpOk B g ∧ g.Nodup ∧ res = .bool (hungB B g)) := by
  refine T.d__law_is_hung.F.ok sc__law_is_hung ?len (fun cdv A outer s H vs Q E hr h => ?_)
  case len =>
    rintro vs H Q E ⟨ds, d, h, ⟨B, i, rfl, _⟩, _⟩
    exact h.length
  obtain ⟨ds, res, hA, ⟨B, g, rfl, hG, hn, rfl⟩, k⟩ := h
  obtain ⟨v, u, rfl, p, q⟩ := dpa2 hA
  refine ⟨_, (pss_one (ps_ret (pe_cmpR op_eq (pe_callB (lenK (K := K)) (by rfl) T.b_len (by decide +kernel) (pa_cons (pe_call (ok__law_pieces_of (P := P) (w := w) T) (hr.mono (by decide)) (by rfl) T.d__law_pieces_of.g T.d__law_pieces_of.F.kp T.d__law_pieces_of.b .nil pass0 (pa_cons (pv 0) (pa_cons (pv 1) pa_nil))) pa_nil)) pe_int (nomark _)))), ?_⟩
  refine eq_call (K := K) (B, g) (eds_cons (ed_var rfl p) (eds_cons (ed_var rfl q) eds_nil)) ⟨hG, hn⟩ H (Ex.refl _) _ fun d z H2 hd e2 pz => ?_
  obtain ⟨ps, rfl, hps⟩ := hd
  obtain ⟨a, xs, rfl, h1, h2⟩ := dp_tup pz
  refine ⟨a, xs, rfl, .inr h1, rfl, ?_⟩
  have hl : xs.length = ps.length := by rw [h2.length]; exact List.length_map ..
  have : decide (V.int (xs.length : Int) = V.int 1) = hungB B g := by
    unfold hungB
    rw [hl, decide_eq_decide]
    constructor
    · intro h
      have : (ps.length : Int) = 1 := by injection h
      exact hps.mp (by omega)
    · intro h
      rw [hps.mpr h]; rfl
  rw [this]
  exact k _ H2 e2 (.bl _)
theorem sc__law_are_lot : FnScope ["_law_book", "_law_data_here", "_law_tags", "_law_lot", "_law_i", "_law_j"] ["_law_book", "_law_data_here", "_law_tags"] (defScope st__law_are_lot) := ⟨rfl, rfl, rfl, by decide +kernel, rfl, by decide +kernel, by decide +kernel⟩
theorem ok__law_are_lot (T : Txt K mg) : FnOk P w K mg base CX0 5 T.d__law_are_lot.f T.d__law_are_lot.fd ["_law_book", "_law_data_here", "_law_tags"] (NSp K fun B ds res => ∃ (R : List (List (List Int))) (t : Tags), ds = [dataD R, tagsD t] ∧ DataG B R ∧ TagsG B R t ∧ res = .bool (isLotB B R t)) := by
  refine T.d__law_are_lot.F.ok sc__law_are_lot ?len (fun cdv A outer s H vs Q E hr h => ?_)
  case len =>
    rintro vs H Q E ⟨v0, rest, B, ds, d, rfl, _, h, ⟨R, t, rfl, _⟩, _⟩
    exact congrArg Nat.succ h.length
  obtain ⟨v0, rest, B, ds, res, rfl, hB, hA, ⟨R, t, rfl, hD, hT, rfl⟩, k⟩ := h
  obtain ⟨u1, u2, rfl, p1, p2⟩ := dpa2 hA
  refine ⟨_, (pss_cons (ps_set (i := 3) sc__law_are_lot.nd rfl (by first | exact Or.inl rfl | exact Or.inr rfl) (pe_call (ok__law_filled (P := P) (w := w) T) (hr.mono (by decide)) (by rfl) T.d__law_filled.g T.d__law_filled.F.kp T.d__law_filled.b .nil pass0 (pa_cons (pv 2) pa_nil)))
      (pss_cons (ps_if (pt_not (pt_val (pe_call (ok__law_is_hung (P := P) (w := w) T) (hr.mono (by decide)) (by rfl) T.d__law_is_hung.g T.d__law_is_hung.F.kp T.d__law_is_hung.b .nil pass0 (pa_cons (pv 0) (pa_cons (pv 3) pa_nil)))))
      (pss_one (ps_ret pe_bl))
      pss_nil)
      (pss_cons (ps_for PassesOwn.never rfl (piTK (K := K) (pv 3)) (pg_name (i := 4) sc__law_are_lot.nd rfl (by first | exact Or.inl rfl | exact Or.inr rfl))
      (pss_one (ps_if (pt_cmpR (neEK (K := K) hr) (pe_lc (own := [("_law_j", 5)]) rfl sc__law_are_lot.nd (piTK (K := K) (pv 3)) (blkOk_by (own := [("_law_j", 5)]) (N := ["_law_book", "_law_data_here", "_law_tags", "_law_lot", "_law_i", "_law_j"]) (sc := defScope st__law_are_lot) (by decide +kernel)) (fun _ _ _ _ _ => (pg_name (i := 5) sc__law_are_lot.nd rfl (by first | exact Or.inl rfl | exact Or.inr rfl))) (fun _ _ _ _ _ => pts_one (PW.pt (pw_and (pt_cmpR op_lt (pv 5) (pv 4) (nomark _)) (pw_and1 (pt_not (pt_val (pe_call (ok__law_is_agreed (P := P) (w := w) T) (hr.mono (by decide)) (by rfl) T.d__law_is_agreed.g T.d__law_is_agreed.F.kp T.d__law_is_agreed.b .nil pass0 (pa_cons (pv 0) (pa_cons (pv 1) (pa_cons (pv 4) (pa_cons (pe_ix (ixTK (K := K)) (pv 2) (pv 4) (fun _ _ => rfl)) (pa_cons (pv 5) (pa_cons (pe_ix (ixTK (K := K)) (pv 2) (pv 5) (fun _ _ => rfl)) pa_nil))))))))))))) (fun _ _ _ _ _ => (pv 5))) (pe_lst pa_nil) (nomark _))
        (pss_one (ps_ret pe_bl))
        pss_nil)))
      (pss_one (ps_ret pe_bl))))), ?_⟩
  have hsm := hD.small
  have hgl : (haveN t).length ≤ 4 := by have := haveN_len t; have := hT.len; omega
  refine q_asgD (ed_call (eds_cons (ed_var rfl p2) eds_nil) ⟨t, rfl, by have := hT.len; omega, rfl⟩) fun g H1 e1 pg => ?_
  refine q_whenD (et_not (et_B (ed_call (eds_cons (ed_var rfl (hB.dp.ex e1)) (eds_cons (ed_var rfl pg) eds_nil)) ⟨B, haveN t, rfl, grp_of hD.book hT.len, haveN_nodup t, rfl⟩))) (fun hx H2 e2 => ?_) (fun hx H2 e2 => ?_)
  · refine s_retD (K := K) ed_bl fun v H3 e3 pv => k v H3 ((e1.trans e2).trans e3) ?_
    have : isLotB B R t = false := by
      refine isLotB_no fun h => ?_
      have : hungB B (haveN t) = true := hungB_yes h.1
      rw [this] at hx; cases hx
    rw [this]; exact pv
  · have hh : Hung (nearB B) (haveN t) := by
      have : hungB B (haveN t) = true := by simpa using hx
      exact hungB_of this
    have e12 := e1.trans e2
    have pg2 := pg.ex e2
    have hin : ∀ x ∈ haveN t, x < B.length := (grp_of hD.book hT.len).inn
    have hag : ∀ {i j : Nat}, i ∈ haveN t → j ∈ haveN t → ∃ a b, t[i]? = some (some a) ∧ t[j]? = some (some b) ∧ agreeT B R t i j = agreeB B R i a j b := fun {i j} hi hj => by
      obtain ⟨a, ha⟩ := haveN_mem.mp hi
      obtain ⟨b, hb⟩ := haveN_mem.mp hj
      exact ⟨a, b, ha, hb, agreeT_of ha hb⟩
    refine q_find1 (K := K) (xs := haveN t) (enc := nD) (p := fun (i : Nat) => !((haveN t).filter fun (j : Nat) => decide ((j : Int) < (i : Int)) && !agreeT B R t i j).isEmpty) (r := fun _ => .bool false) (ei_tup (ed_var rfl pg2)) rfl
      (fun i x H3 hi e3 px => ?_) (fun c x H1 hc hp e px => ed_bl) (fun m i v H3 hf hm e3 pv => ?_) fun o H3 hf e3 => ?_
    · refine ET.is (et_test (ed_op (ed_lc (xs := haveN t) (enc := nD) (f := fun (j : Nat) => decide ((j : Int) < (i : Int)) && !agreeT B R t i j) (w := nD) (fun H4 e4 => ei_tup (ed_var rfl ((pg2.ex e3).ex e4))) (by omega) (fun _ _ _ => rfl) (fun _ => rfl)
        (fun j y H4 hj e4 py => et_and' (et_test (ed_op (ed_var rfl py) (ed_var rfl (px.ex e4)) rd_b)) fun _ => ?_) (fun j y H4 hj e4 py _ => ed_var rfl py))
        (ed_lst (ds := []) eds_nil (by show 0 ≤ 100000; decide)) rd_neE)) ?_
      · obtain ⟨a, b, ha, hb, hab⟩ := hag hi hj
        have e124 := e12.trans (e3.trans e4)
        rw [hab]
        exact et_not (et_B (ed_callN (eb_var rfl (hB.ex e124)) (eds_cons (ed_var rfl (p1.ex e124)) (eds_cons (ed_var rfl (px.ex e4)) (eds_cons (ed_op (ed_var rfl (p2.ex e124)) (ed_var rfl (px.ex e4)) (rd_ixT (d := nD a) (by rw [List.getElem?_map, ha]; rfl))) (eds_cons (ed_var rfl py) (eds_cons (ed_op (ed_var rfl (p2.ex e124)) (ed_var rfl py) (rd_ixT (d := nD b) (by rw [List.getElem?_map, hb]; rfl))) eds_nil))))) ⟨R, i, j, a, b, rfl, hD, hin i hi, hin j hj, hT.inr i a ha, hT.inr j b hb, rfl⟩))
      · generalize (haveN t).filter _ = l
        cases l <;> rfl
    · have : isLotB B R t = false := by
        obtain ⟨i', hi', hp⟩ := findIdx_some hf
        rw [hm] at hi'; cases hi'
        have hi := List.mem_of_getElem? hm
        refine isLotB_no fun h => ?_
        rw [Bool.not_eq_true'] at hp
        have hne : ((haveN t).filter fun (j : Nat) => decide ((j : Int) < (i : Int)) && !agreeT B R t i j) ≠ [] := fun z => by rw [z] at hp; cases hp
        obtain ⟨j, hj⟩ := List.exists_mem_of_ne_nil _ hne
        obtain ⟨hj1, hj2⟩ := List.mem_filter.mp hj
        rw [Bool.and_eq_true, decide_eq_true_iff] at hj2
        obtain ⟨a, b, ha, hb, hab⟩ := hag hi hj1
        have h3 := h.2 j b i a hb ha (by omega)
        rw [show agreeB B R j b i a = agreeB B R i a j b from (net_ok B R).agsymm j b i a] at h3
        rw [hab, h3] at hj2
        cases hj2.2
      rw [this] at k
      exact k v H3 (e12.trans e3) pv
    · have : isLotB B R t = true := by
        refine isLotB_iff.mpr ⟨hh, fun i a j b ha hb hij => ?_⟩
        have hj := haveN_mem.mpr ⟨b, hb⟩
        have hi := haveN_mem.mpr ⟨a, ha⟩
        have h1 := List.findIdx?_eq_none_iff.mp hf j hj
        have h1 : ((haveN t).filter fun (i : Nat) => decide ((i : Int) < (j : Int)) && !agreeT B R t j i).isEmpty = true := by simpa using h1
        rw [List.isEmpty_iff, List.filter_eq_nil_iff] at h1
        have h2 := h1 i hi
        rw [agreeT_of hb ha, decide_eq_true (show (i : Int) < (j : Int) by omega), Bool.true_and] at h2
        have h3 : agreeB B R j b i a = true := by simpa using h2
        rw [show agreeB B R i a j b = agreeB B R j b i a from (net_ok B R).agsymm i a j b]
        exact h3
      rw [this] at k
      exact s_retD (K := K) ed_bl fun v H4 e4 pv => k v H4 ((e12.trans e3).trans e4) pv
end
end BB
/-! L4: every tags. -/
namespace BB
open PySem L2 Evl LamX
/-- all tags, one table longer -/
def grow (n : Nat) (t : Tags) : List Tags := (none :: (List.range n).map some).map fun a => t ++ [a]
def evT : List (List (List Int)) → List Tags → List Tags
  | [], F => F
  | rows :: R, F => evT R (F.flatMap (grow rows.length))
theorem evT_app : ∀ (R S : List (List (List Int))) (F : List Tags), evT (R ++ S) F = evT S (evT R F)
  | [], S, F => rfl
  | r :: R, S, F => evT_app R S _
theorem grow_len (n : Nat) (t : Tags) : (grow n t).length = n + 1 := by
  unfold grow
  rw [List.length_map, List.length_cons, List.length_map, List.length_range]
theorem flat_len {n m : Nat} : ∀ {F : List Tags}, n ≤ m → (F.flatMap (grow n)).length ≤ (m + 1) * F.length
  | [], _ => by simp
  | t :: F, h => by
    rw [List.flatMap_cons, List.length_append, grow_len, List.length_cons, Nat.mul_succ]
    have := flat_len (F := F) h
    omega
def Full (R : List (List (List Int))) (t : Tags) : Prop := t.length = R.length ∧ InR R t
theorem full_snoc {R : List (List (List Int))} {rows : List (List Int)} {t : Tags} : Full (R ++ [rows]) t ↔ ∃ u, Full R u ∧ t ∈ grow rows.length u := by
  constructor
  · rintro ⟨hl, hin⟩
    rw [List.length_append, List.length_singleton] at hl
    have hne : t ≠ [] := fun z => by rw [z] at hl; simp at hl
    obtain ⟨u, a, rfl⟩ : ∃ u a, t = u ++ [a] := ⟨t.dropLast, t.getLast hne, (List.dropLast_concat_getLast hne).symm⟩
    rw [List.length_append, List.length_singleton] at hl
    refine ⟨u, ⟨by omega, fun m k hm => ?_⟩, List.mem_map.mpr ⟨a, ?_, rfl⟩⟩
    · have hml := (List.getElem?_eq_some_iff.mp hm).1
      have := hin m k (by rw [List.getElem?_append_left hml]; exact hm)
      rw [List.getD_eq_getElem?_getD, List.getElem?_append_left (by omega), ← List.getD_eq_getElem?_getD] at this
      exact this
    · cases a with
      | none => simp
      | some k =>
        have := hin u.length k (by rw [List.getElem?_append_right (Nat.le_refl _), Nat.sub_self]; rfl)
        rw [List.getD_eq_getElem?_getD, List.getElem?_append_right (by omega), show u.length - R.length = 0 by omega] at this
        exact List.mem_cons_of_mem _ (List.mem_map.mpr ⟨k, List.mem_range.mpr this, rfl⟩)
  · rintro ⟨u, ⟨hl, hin⟩, ht⟩
    obtain ⟨a, ha, rfl⟩ := List.mem_map.mp ht
    refine ⟨by rw [List.length_append, List.length_append, hl]; rfl, fun m k hm => ?_⟩
    by_cases h : m < u.length
    · rw [List.getElem?_append_left h] at hm
      have := hin m k hm
      rw [List.getD_eq_getElem?_getD, List.getElem?_append_left (by omega), ← List.getD_eq_getElem?_getD]
      exact this
    · have hm2 := (List.getElem?_eq_some_iff.mp hm).1
      rw [List.length_append, List.length_singleton] at hm2
      have hme : m = u.length := by omega
      subst hme
      rw [List.getElem?_append_right (Nat.le_refl _), Nat.sub_self] at hm
      have hm : some a = some (some k) := hm
      cases hm
      rw [List.getD_eq_getElem?_getD, List.getElem?_append_right (by omega), show u.length - R.length = 0 by omega]
      rcases List.mem_cons.mp ha with z | z
      · cases z
      · obtain ⟨k', hk, e⟩ := List.mem_map.mp z
        cases e
        exact List.mem_range.mp hk
theorem snoc_ind {α : Type} {p : List α → Prop} (h0 : p []) (h1 : ∀ l a, p l → p (l ++ [a])) (l : List α) : p l := by
  have : ∀ l : List α, p l.reverse := fun l => by
    induction l with
    | nil => exact h0
    | cons a l ih => rw [List.reverse_cons]; exact h1 _ _ ih
  have := this l.reverse
  rwa [List.reverse_reverse] at this
theorem evT_mem (R : List (List (List Int))) : ∀ t, t ∈ evT R [[]] ↔ Full R t := by
  induction R using snoc_ind with
  | h0 =>
    intro t
    show t ∈ [[]] ↔ _
    rw [List.mem_singleton]
    exact ⟨fun h => h ▸ ⟨rfl, fun m k h => by simp at h⟩, fun h => List.eq_nil_of_length_eq_zero h.1⟩
  | h1 R rows ih =>
    intro t
    rw [evT_app, full_snoc]
    show t ∈ (evT R [[]]).flatMap _ ↔ _
    rw [List.mem_flatMap]
    exact ⟨fun ⟨u, h1, h2⟩ => ⟨u, (ih u).mp h1, h2⟩, fun ⟨u, h1, h2⟩ => ⟨u, (ih u).mpr h1, h2⟩⟩
theorem grow_nodup (n : Nat) (t : Tags) : (grow n t).Nodup := by
  unfold grow
  refine List.Pairwise.map (R := fun a b => a ≠ b) _ (fun a b h e => h ?_) ?_
  · have := List.append_cancel_left e
    injection this
  · refine List.nodup_cons.mpr ⟨fun h => ?_, List.Pairwise.map (R := fun a b => a ≠ b) _ (fun a b h e => h (by injection e)) List.nodup_range⟩
    obtain ⟨k, _, e⟩ := List.mem_map.mp h
    cases e
theorem flat_nodup {n : Nat} : ∀ {F : List Tags}, F.Nodup → (F.flatMap (grow n)).Nodup
  | [], _ => List.nodup_nil
  | t :: F, h => by
    rw [List.nodup_cons] at h
    rw [List.flatMap_cons]
    refine List.nodup_append.mpr ⟨grow_nodup n t, flat_nodup h.2, fun a ha b hb e => ?_⟩
    subst e
    obtain ⟨x, _, rfl⟩ := List.mem_map.mp ha
    obtain ⟨u, hu, hb⟩ := List.mem_flatMap.mp hb
    obtain ⟨y, _, e⟩ := List.mem_map.mp hb
    have := List.append_inj_left' e rfl
    exact h.1 (this ▸ hu)
theorem evT_nodup : ∀ (R : List (List (List Int))) (F : List Tags), F.Nodup → (evT R F).Nodup
  | [], _, h => h
  | _ :: R, _, h => evT_nodup R _ (flat_nodup h)
theorem evT_len {R : List (List (List Int))} (h : ∀ rows ∈ R, rows.length ≤ 3) : ∀ F : List Tags, (evT R F).length ≤ 4 ^ R.length * F.length := by
  induction R with
  | nil => intro F; show F.length ≤ 1 * F.length; omega
  | cons r R ih =>
    intro F
    have h1 := ih (fun rows hr => h rows (List.mem_cons_of_mem _ hr)) (F.flatMap (grow r.length))
    have h2 := flat_len (F := F) (h r List.mem_cons_self)
    show (evT R _).length ≤ _
    have h3 : 4 ^ R.length * (F.flatMap (grow r.length)).length ≤ 4 ^ R.length * ((3 + 1) * F.length) := Nat.mul_le_mul_left _ h2
    rw [List.length_cons, Nat.pow_succ, Nat.mul_assoc]
    exact Nat.le_trans h1 h3
def everyT (R : List (List (List Int))) : List Tags := (evT R [[]]).filter fun t => t.any Option.isSome
theorem evT_small {R : List (List (List Int))} (h : ∀ rows ∈ R, rows.length ≤ 3) (hR : R.length ≤ 4) (k : Nat) : (evT (R.take k) [[]]).length ≤ 256 := by
  have h1 := evT_len (R := R.take k) (fun rows hr => h rows (List.mem_of_mem_take hr)) [[]]
  have h2 : (4 : Nat) ^ (R.take k).length ≤ 4 ^ 4 := Nat.pow_le_pow_right (by decide) (by rw [List.length_take]; omega)
  have e : (4 : Nat) ^ 4 = 256 := by decide
  rw [List.length_singleton, Nat.mul_one] at h1
  omega
section
variable {K : PySem.W.Frag} {σ : L2.St} {H H' H2 : Hp} {ta tb : TE} {ds es : List PyData} {l lo : Addr} {i : Nat}
theorem el_cat (ha : EL K ta σ H ds) (hb : ∀ H1, Ex H H1 → EL K tb σ H1 es) (hz : ds.length + es.length ≤ 100000) : EL K (tOp rCat ta tb) σ H (ds ++ es) := fun H1 e Q q =>
  ha H1 e _ fun p xs H2 hp e2 h2 d2 => hb H2 (e.trans e2) H2 (Ex.refl _) _ fun p2 ys H3 hp2 e3 h3 d3 => ⟨p, p2, xs, ys, rfl, rfl, e3 _ _ h2, h3, by rw [d2.length, d3.length]; exact sz_of hz, fun p4 hp4 =>
    q p4 _ _ (fresh_back (e2.trans e3) hp4) ((e2.trans e3).trans (Ex.new hp4)) upd_same (((d2.ex e3).ex (Ex.new hp4)).app (d3.ex (Ex.new hp4)))⟩
def KeepL (l : Addr) (H H' : Hp) : Prop := (∀ o, H l = some o → H' l = some o) ∧ TK H H'
theorem KeepL.refl : KeepL l H H := ⟨fun _ h => h, fun _ _ h => h⟩
theorem KeepL.ex (h : KeepL l H H') (e : Ex H' H2) : KeepL l H H2 := ⟨fun o q => e _ _ (h.1 o q), h.2.trans (TK.of_ex e)⟩
theorem KeepL.step (h : KeepL l H H') (s : Step lo H' H2) (hne : l ≠ lo) : KeepL l H H2 := by
  have tk := s.tk
  obtain ⟨H1, xs, ys, e1, h1, rfl⟩ := s
  exact ⟨fun o q => by rw [upd_ne hne]; exact e1 _ _ (h.1 o q), h.2.trans tk⟩
theorem ei_mlT (hs : σ[i]? = some (some (.ref l))) (h : ML K H l ds) (st : stayAll ds = true) : EI K (iList K (tVar i)) σ H (KeepL l) ds := fun R k => by
  obtain ⟨xs, h1, h2⟩ := h
  exact ⟨_, hs, l, rfl, ⟨xs, sq_of h1⟩, k _ H (Ex.refl _) (walk_lstD (fun H' g => ⟨sq_of (g.1 _ h1), dpa_tk g.2 _ _ st h2⟩) h2.length)⟩
end
theorem stay_tagsL (F : List Tags) : stayAll (F.map tagsD) = true := stayAll_map fun t _ => stay_tupled _ (tupled_tags t)
theorem tags_snoc (t : Tags) (a : Option Nat) : tagsD (t ++ [a]) = .tuple (t.map tagD ++ [tagD a]) := by
  show PyData.tuple ((t ++ [a]).map tagD) = _
  rw [List.map_append]; rfl
section
variable {P : Program} {w : World} {K : PySem.W.Frag} {mg : Str → Option Value} {base : Heap}
theorem sc__law_every_tags : FnScope ["_law_data_here", "_law_found", "_law_lines", "_law_longer", "_law_one_here", "_law_tag", "_law_k"] ["_law_data_here"] (defScope st__law_every_tags) := ⟨rfl, rfl, rfl, by decide +kernel, rfl, by decide +kernel, by decide +kernel⟩
theorem ok__law_every_tags (T : Txt K mg) : FnOk P w K mg base CX0 1 T.d__law_every_tags.f T.d__law_every_tags.fd ["_law_data_here"] (PureSp K fun ds res => ∃ R : List (List (List Int)), ds = [dataD R] ∧ R.length ≤ 4 ∧ (∀ rows ∈ R, rows.length ≤ 3) ∧ res = .list ((everyT R).map tagsD)) := by
  refine T.d__law_every_tags.F.ok sc__law_every_tags ?len (fun cdv A outer s H vs Q E hr h => ?_)
  case len =>
    rintro vs H Q E ⟨ds, d, h, ⟨R, rfl, _⟩, _⟩
    exact h.length
  obtain ⟨ds, res, hA, ⟨R, rfl, hR, hfew, rfl⟩, k⟩ := h
  obtain ⟨v, rfl, p⟩ := dpa1 hA
  refine ⟨_, (pss_cons (ps_set (i := 1) sc__law_every_tags.nd rfl (by first | exact Or.inl rfl | exact Or.inr rfl) (pe_lst (pa_cons (pe_tup pa_nil) pa_nil)))
      (pss_cons (ps_for PassesOwn.never rfl (piTK (K := K) (pv 0)) (pg_name (i := 2) sc__law_every_tags.nd rfl (by first | exact Or.inl rfl | exact Or.inr rfl))
      (pss_cons (ps_set (i := 3) sc__law_every_tags.nd rfl (by first | exact Or.inl rfl | exact Or.inr rfl) (pe_lst pa_nil))
        (pss_cons (ps_for PassesOwn.never rfl (piLK (K := K) (pv 1)) (pg_name (i := 4) sc__law_every_tags.nd rfl (by first | exact Or.inl rfl | exact Or.inr rfl))
        (pss_one (ps_expr (pe_bm PySem.F.plainAttrs_list PySem.F.slot_list_extend PySem.F.type_list_extend mt_extend (pv 3) (pa_cons (pe_lc (own := [("_law_tag", 5)]) rfl sc__law_every_tags.nd (piLK (K := K) (pe_op op_cat (pe_lst (pa_cons pe_non pa_nil)) (pe_lc (own := [("_law_k", 6)]) rfl sc__law_every_tags.nd (pi_range1 (by rfl) T.b_range (pa_cons (pe_callB (lenK (K := K)) (by rfl) T.b_len (by decide +kernel) (pa_cons (pv 2) pa_nil)) pa_nil)) (blkOk_by (own := [("_law_k", 6)]) (N := ["_law_data_here", "_law_found", "_law_lines", "_law_longer", "_law_one_here", "_law_tag", "_law_k"]) (sc := defScope st__law_every_tags) (by decide +kernel)) (fun _ _ _ _ _ => (pg_name (i := 6) sc__law_every_tags.nd rfl (by first | exact Or.inl rfl | exact Or.inr rfl))) (fun _ _ _ _ _ => pts_nil) (fun _ _ _ _ _ => (pv 6))))) (blkOk_by (own := [("_law_tag", 5)]) (N := ["_law_data_here", "_law_found", "_law_lines", "_law_longer", "_law_one_here", "_law_tag", "_law_k"]) (sc := defScope st__law_every_tags) (by decide +kernel)) (fun _ _ _ _ _ => (pg_name (i := 5) sc__law_every_tags.nd rfl (by first | exact Or.inl rfl | exact Or.inr rfl))) (fun _ _ _ _ _ => pts_nil) (fun _ _ _ _ _ => (pe_op (catK (K := K)) (pv 4) (pe_tup (pa_cons (pv 5) pa_nil))))) pa_nil)))))
        (pss_one (ps_set (i := 1) sc__law_every_tags.nd rfl (by first | exact Or.inl rfl | exact Or.inr rfl) (pv 3))))))
      (pss_one (ps_ret (pe_lc (own := [("_law_one_here", 4)]) rfl sc__law_every_tags.nd (piLK (K := K) (pv 1)) (blkOk_by (own := [("_law_one_here", 4)]) (N := ["_law_data_here", "_law_found", "_law_lines", "_law_longer", "_law_one_here", "_law_tag", "_law_k"]) (sc := defScope st__law_every_tags) (by decide +kernel)) (fun _ _ _ _ _ => (pg_name (i := 4) sc__law_every_tags.nd rfl (by first | exact Or.inl rfl | exact Or.inr rfl))) (fun _ _ _ _ _ => pts_one (pt_cmpR (neEK (K := K) hr) (pe_lc (own := [("_law_tag", 5)]) rfl sc__law_every_tags.nd (piTK (K := K) (pv 4)) (blkOk_by (own := [("_law_tag", 5)]) (N := ["_law_data_here", "_law_found", "_law_lines", "_law_longer", "_law_one_here", "_law_tag", "_law_k"]) (sc := (relabel _ _)) (by rfl)) (fun _ _ _ _ _ => (pg_name (i := 5) sc__law_every_tags.nd rfl (by first | exact Or.inl rfl | exact Or.inr rfl))) (fun _ _ _ _ _ => pts_one (pt_cmpR op_notN (pv 5) pe_non (nomark _))) (fun _ _ _ _ _ => (pv 5))) (pe_lst pa_nil) (nomark _))) (fun _ _ _ _ _ => (pv 4))))))), ?_⟩
  have hst : stayAll (R.map rowsD) = true := stayAll_map fun rs _ => stay_tupled _ (tupled_rows rs)
  refine q_asgE (K := K) (ds := ([[]] : List Tags).map tagsD) (el_lst (eds_cons (ed_tup (ds := []) eds_nil (by decide)) eds_nil) (by show 1 ≤ 100000; decide)) fun lf H1 e1 hlf mf => ?_
  refine q_forD (ei_tupK (ds := R.map rowsD) (ed_var rfl (p.ex e1)) hst) (fun H2 i σ' H' => Ex H H' ∧ TK H2 H' ∧ ∃ (lf : Addr) (o2 o3 o4 o5 o6 : Option V), H lf = none ∧ ML K H' lf ((evT (R.take i) [[]]).map tagsD) ∧ σ' = [some v, some (.ref lf), o2, o3, o4, o5, o6])
    (fun H2 e2 => ⟨e1.trans e2, fun _ _ h => h, lf, none, none, none, none, none, hlf, mf.ex e2, rfl⟩) (fun H2 i σ' H' _ h => h.2.1) ?_ ?_
  · rintro H2 i d x σ' H' H'' e2 hd ⟨e, tk, lf, o2, o3, o4, o5, o6, hlf, mf, rfl⟩ eH px
    obtain ⟨rows, hrows, rfl⟩ := map_get hd
    have hrl := hfew rows (List.mem_of_getElem? hrows)
    show tSeq _ _ _ [some v, some (.ref lf), some x, o3, o4, o5, o6] H''
    refine q_asgE (K := K) (ds := ([] : List Tags).map tagsD) (el_lst eds_nil (by show 0 ≤ 100000; decide)) fun lo H3 e3 hlo mo => ?_
    have e03 := (e.trans eH).trans e3
    have hlo0 : H lo = none := fresh_back (e.trans eH) hlo
    have mf3 := (mf.ex eH).ex e3
    have hne : lf ≠ lo := (mf.ex eH).ne hlo
    have hFz := evT_small hfew hR i
    have tkx : TK H'' H3 := TK.of_ex e3
    refine q_forD (ei_mlT (K := K) rfl mf3 (stay_tagsL _)) (fun H4 j σ' H' => Ex H H' ∧ KeepL lf H4 H' ∧ TK H'' H' ∧ ∃ (o4 o5 o6 : Option V), ML K H' lo ((((evT (R.take i) [[]]).take j).flatMap (grow rows.length)).map tagsD) ∧ σ' = [some v, some (.ref lf), some x, some (.ref lo), o4, o5, o6])
      (fun H4 e4 => ⟨e03.trans e4, KeepL.refl, tkx.trans (TK.of_ex e4), o4, o5, o6, mo.ex e4, rfl⟩) (fun H4 j σ' H' _ h => h.2.1) ?_ ?_
    · rintro H4 j d2 y σ' H5 H6 e4 hd2 ⟨e5, kl, tk5, q4, q5, q6, mo5, rfl⟩ eH6 py
      obtain ⟨t, ht, rfl⟩ := map_get hd2
      show tDrop _ _ [some v, some (.ref lf), some x, some (.ref lo), some y, q5, q6] H6
      have px6 : Dp K H6 x (rowsD rows) := dp_tk (tk5.trans (TK.of_ex eH6)) _ _ (stay_tupled _ (tupled_rows rows)) px
      have hjl : j < (evT (R.take i) [[]]).length := (List.getElem?_eq_some_iff.mp ht).1
      have hfl : (((evT (R.take i) [[]]).take j).flatMap (grow rows.length)).length ≤ 4 * 256 := by
        have h1 := flat_len (F := (evT (R.take i) [[]]).take j) hrl
        rw [List.length_take] at h1
        omega
      refine s_extD (K := K) (es := (grow rows.length t).map tagsD) (mo5.ex eH6) rfl (stay_tagsL _) (EL.src ?_) (stay_tagsL _) (by rw [List.length_map, List.length_map, grow_len]; omega) fun H7 st7 mo7 => ?_
      · have h := el_lcY (K := K) (σ := [some v, some (.ref lf), some x, some (.ref lo), some y, q5, q6]) (H := H6) (te := tOp (rCatA K) (tVar 4) (tTup (tCons (tVar 5) tNil))) (wi := iList K (tOp rCat (tLst (tCons (tC .non) tNil)) (tLc (iRng1 (tCons (tCB (fun xs H Q => ∃ p ys, xs = [.ref p] ∧ (SqL K H p ys ∨ SqT K H p ys) ∧ Q (.int ys.length) H) (tCons (tVar 2) tNil)) tNil)) (gName 6) tYes (tVar 6) [6])))
          (vs := [5]) (j := 5) (xs := none :: (List.range rows.length).map some) (enc := tagD) (w := fun a => tagsD (t ++ [a])) (fun H7 e7 => ?_) (by rw [List.length_cons, List.length_map, List.length_range]; omega) (fun a _ => stay_tupled _ (tupled_tags _)) (fun _ => rfl) (fun a z H7 ha e7 pz => ?_)
        · unfold grow
          rw [List.map_map]
          exact h
        · have h := el_cat (K := K) (el_lst (σ := [some v, some (.ref lf), some x, some (.ref lo), some y, q5, q6]) (H := H7) (eds_cons ed_non eds_nil) (by show 1 ≤ 100000; decide)) (fun H8 e8 => el_lcY (te := tVar 6) (xs := List.range rows.length) (enc := nD) (w := nD) (vs := [6]) (j := 6) (fun H9 e9 => ei_rng (n := rows.length) (eds_cons (ed_lenT (ed_var (i := 2) rfl (px6.ex ((e7.trans e8).trans e9)))) eds_nil) (by omega)) (by rw [List.length_range]; omega) (fun _ _ => rfl) (fun _ => rfl) (fun i z H9 _ e9 pz => ed_var rfl pz)) (by rw [List.length_map, List.length_range]; show 1 + rows.length ≤ 100000; omega)
          have e : [PyData.none] ++ (List.range rows.length).map nD = (none :: (List.range rows.length).map some).map tagD := by
            rw [List.map_cons, List.map_map]; rfl
          rw [e] at h
          exact ei_lst h.ed
        · rw [tags_snoc]
          exact ed_op (ed_var rfl (py.ex e7)) (ed_tup (eds_cons (ed_var rfl pz) eds_nil) (by show 1 ≤ 100000; decide)) (rd_catA (by
            have h1 := ((evT_mem (R.take i) t).mp (List.mem_of_getElem? ht)).1
            rw [List.length_take] at h1
            rw [List.length_map]
            show t.length + 1 ≤ 100000
            omega))
      · refine ⟨st7.ex0 (e5.trans eH6) hlo0, (kl.ex eH6).step st7 hne, (tk5.trans (TK.of_ex eH6)).trans st7.tk, _, _, _, ?_, rfl⟩
        rw [take_succ_of ht, List.flatMap_append, List.map_append, List.flatMap_singleton]
        exact mo7
    · rintro H4 σ' H5 e4 ⟨e5, kl, tk5, q4, q5, q6, mo5, rfl⟩
      rw [List.length_map, List.take_length] at mo5
      refine ⟨_, rfl, e5, (tk.trans (TK.of_ex eH)).trans tk5, lo, _, _, _, _, _, hlo0, ?_, rfl⟩
      rw [take_succ_of hrows, evT_app]
      exact mo5
  · rintro H2 σ' H' e2 ⟨e, tk, lf, o2, o3, o4, o5, o6, hlf, mf, rfl⟩
    rw [List.length_map, List.take_length] at mf
    have hz := evT_small hfew hR R.length
    rw [List.take_length] at hz
    refine s_retD (ed_lc (K := K) (xs := evT R [[]]) (enc := tagsD) (f := fun t => t.any Option.isSome) (w := tagsD) (fun H3 e3 => ei_lst ((mf.ex e3).ed rfl)) (by omega) (fun t _ _ => stay_tupled _ (tupled_tags t)) (fun _ => rfl)
      (fun t x H3 ht e3 px => ET.is (et_test (ed_op (ed_lc (xs := t) (enc := tagD) (f := fun a => a.isSome) (w := tagD) (fun H4 e4 => ei_tup (ed_var rfl (px.ex e4))) ?_ (fun a _ _ => stay_tupled _ (tupled_tag a)) (fun _ => rfl)
        (fun a y H4 _ e4 py => ET.is (et_test (ed_op (ed_var rfl py) ed_non rd_notN)) (by rw [tagD_isN]; cases a <;> rfl)) (fun a y H4 _ e4 py _ => ed_var rfl py)) (ed_lst (ds := []) eds_nil (by show 0 ≤ 100000; decide)) rd_neE)) ?_) (fun t x H3 _ e3 px _ => ed_var rfl px)) fun z H4 e4 pz => k z H4 (e.trans e4) pz
    · have := ((evT_mem R t).mp ht).1
      omega
    · rw [Bool.eq_iff_iff, List.any_eq_true]
      constructor
      · intro h
        have hne : t.filter (fun a => a.isSome) ≠ [] := fun z => by rw [z] at h; cases h
        obtain ⟨a, ha⟩ := List.exists_mem_of_ne_nil _ hne
        obtain ⟨h1, h2⟩ := List.mem_filter.mp ha
        exact ⟨a, h1, h2⟩
      · rintro ⟨a, h1, h2⟩
        have := List.mem_filter.mpr ⟨h1, h2⟩
        cases q : t.filter (fun a => a.isSome) with
        | nil => rw [q] at this; cases this
        | cons _ _ => rfl
end
end BB
/-! G5: sorted of pairs (rank, tags): the ranks alone decide. -/
namespace BB
open PySem L2 Evl LamX PyProof.Rows
open PySem.W (EachIs alike alikeAll dataLt)
def prD (t : Tags) : PyData := .tuple [rankD t, tagsD t]
def PrAt (h : Heap) (v : Value) (t : Tags) : Prop := ∃ as, Reads h v (prD t) as
theorem rankD_inj {t u : Tags} (h : rankD t = rankD u) : t = u := rankL_inj (schD_inj h)
theorem alike_rank (t u : Tags) : alike (rankD t) (rankD u) = true := by
  show alike (.tuple _) (.tuple _) = true
  rw [alike]
  exact PySem.W.alike_ints _ _
theorem alike_tags : ∀ t : Tags, alikeAll (t.map tagD) (t.map tagD) = true
  | [] => by simp [alikeAll]
  | a :: t => by
    show alikeAll (tagD a :: t.map tagD) (tagD a :: t.map tagD) = true
    rw [alikeAll, alike_tags t, Bool.and_true]
    cases a <;> simp [tagD, alike]
theorem PrAt.get {h : Heap} {v : Value} {t : Tags} (p : PrAt h v t) : ∃ a o n f g as bs, v = .ref a ∧ h.get? a = some o ∧ o.cls = .type "tuple" ∧ o.data = .seq #[f, g] n ∧ Reads h f (rankD t) as ∧ Reads h g (tagsD t) bs := by
  obtain ⟨as, r⟩ := p
  unfold prD at r
  cases r with
  | @tuple a o xs n _ _ ho hc hd hr =>
    cases q : xs.toList with
    | nil => rw [q] at hr; cases hr
    | cons f fr =>
      rw [q] at hr
      cases hr with
      | cons r1 r2 =>
        cases q2 : fr with
        | nil => rw [q2] at r2; cases r2
        | cons g gr =>
          rw [q2] at r2
          cases r2 with
          | cons r3 r4 =>
            cases r4
            have e : xs = #[f, g] := by
              rw [← Array.toList_inj, q, q2]
            exact ⟨a, o, n, f, g, _, _, rfl, ho, hc, by rw [hd, e], r1, r3⟩
theorem PrAt.uniq {h : Heap} {v : Value} {t u : Tags} (p : PrAt h v t) (q : PrAt h v u) : t = u := by
  obtain ⟨a, o, n, f, g, as, bs, rfl, ho, hc, hd, r1, _⟩ := p.get
  obtain ⟨a', o', n', f', g', as', bs', e, ho', hc', hd', r1', _⟩ := q.get
  cases e
  rw [ho] at ho'; cases ho'
  rw [hd] at hd'
  injection hd' with e1 e2
  have : f = f' := by injection e1 with e1; injection e1
  subst this
  exact rankD_inj (PySem.W.alike_unique _ _ _ _ _ (alike_rank t u) r1 r1')
open Classical in
noncomputable def kT (h : Heap) (v : Value) : Tags := if q : ∃ t, PrAt h v t then q.choose else []
open Classical in
theorem kT_eq {h : Heap} {v : Value} {t : Tags} (p : PrAt h v t) : kT h v = t := by
  have q : ∃ t, PrAt h v t := ⟨t, p⟩
  have e : kT h v = q.choose := dif_pos q
  rw [e]
  exact q.choose_spec.uniq p
def ltT (t u : Tags) : Bool := decide (t.map rankI < u.map rankI)
theorem swoT (k : Value → Tags) : SrtO.Swo fun v u => ltT (k v) (k u) := by
  refine ⟨fun x y h => ?_, fun x y z h1 h2 => ?_⟩
  · have h := of_decide_eq_true h
    exact decide_eq_false fun h' => List.lt_asymm h h'
  · have h1 := of_decide_eq_false h1
    have h2 := of_decide_eq_false h2
    exact decide_eq_false (List.not_lt.mpr (List.le_trans (List.not_lt.mp h1) (List.not_lt.mp h2)))
theorem depth_rank (t : Tags) : (rankD t).depth = 1 := rank_depth t
section
variable {prog : Program} {w : World} {A : Around} {s : Shared}
theorem prs_cmp {vs : List Value} {k : Value → Tags} (hp : ∀ v ∈ vs, PrAt s.heap v (k v)) (hu : A.units + 70 < cLine) : SrtO.Cmp prog w A s (tuples' false) (fun p => p.1 ∈ vs) (SrtO.lt2 fun v u => ltT (k v) (k u)) := by
  intro p q hm hm'
  have h1 := hp _ hm
  have h2 := hp _ hm'
  show wpAny (model prog w) A (keyLt' (tuples' false) p.1 q.1) (fun r s' => s' = s ∧ r = ltT (k p.1) (k q.1)) (fun _ _ => False) s
  generalize k p.1 = t at h1 ⊢
  generalize k q.1 = u at h2 ⊢
  obtain ⟨a, o, n, f, g, as, bs, e, ho, hc, hd, r1, r2⟩ := h1.get
  obtain ⟨a', o', n', f', g', as', bs', e', ho', hc', hd', r1', r2'⟩ := h2.get
  rw [e, e']
  refine PySem.W.kat_lt ho hd ho' hd' ?_
  show PySem.W.KatLex prog w A false (decide (2 < 2)) _ [(f, f'), (g, g')] 0 s
  have dm : A.units + min (rankD t).depth (rankD u).depth < cLine := by rw [depth_rank, depth_rank]; omega
  refine PySem.W.kat_cons (PySem.W.eqAt_alike _ _ A s f f' _ _ r1 r1' (alike_rank t u) dm prog w _ _ ?_)
  refine PySem.W.kat_go (fun e1 => ?_) (fun e1 => ?_)
  · have ht : t = u := rankD_inj ((eqv_tupled _ _ (tupled_sch _) (tupled_sch _)).mp e1)
    subst ht
    have al : alike (tagsD t) (tagsD t) = true := by
      show alike (.tuple _) (.tuple _) = true
      rw [alike]; exact alike_tags t
    have dm2 : A.units + min (tagsD t).depth (tagsD t).depth < cLine := by
      have := depth_tags t
      rw [Nat.min_self]; omega
    refine PySem.W.kat_yes (PySem.W.kat_cons (PySem.W.eqAt_alike _ _ A s g g' _ _ r2 r2' al dm2 prog w _ _ ?_))
    rw [(eqv_tupled _ _ (tupled_tags t) (tupled_tags t)).mpr rfl]
    exact PySem.W.kat_yes (PySem.W.kat_nil ⟨rfl, by
      show false = ltT t t
      exact (decide_eq_false (List.lt_irrefl _)).symm⟩)
  · refine PySem.W.kat_no (PySem.W.oneLt_alike (f := false) (fun z => nomatch z) r1 r1' (alike_rank t u) (fun z => nomatch z) dm ⟨rfl, ?_⟩)
    show dataLt (.tuple _) (.tuple _) = _
    rw [PySem.W.dataLt_tuple]
    exact PySem.W.dataLt_ints _ _
theorem prs_sortable {s0 : Shared} {a : Addr} {vs : List Value} {k : Value → Tags} (h0 : 2 ≤ vs.length) (hp : ∀ v ∈ vs, PrAt s0.heap v (k v)) (hu : A.units + 70 < cLine) (kk : ∀ b o, s0.heap.get? b = some o → b ≠ a ∧ s.heap.get? b = some o) :
    SrtO.SortableO prog w A s a vs fun v u => ltT (k v) (k u) := by
  intro h' keep
  have hp' : ∀ v ∈ vs, PrAt h' v (k v) := fun v hm => by
    obtain ⟨as, r⟩ := hp v hm
    exact ⟨as, PyProof.Rows.Reads.keeps (fun b o e => keep b o (kk b o e).1 (kk b o e).2) r⟩
  refine ⟨tuples' false, fun Q E hq => ?_, prs_cmp hp' hu⟩
  have er : EachIs (fun v d => ∃ as, Reads h' v d as) vs (vs.map fun v => prD (k v)) := by
    clear h0 hp kk
    induction vs with
    | nil => exact .nil
    | cons v vs ih => exact .cons (hp' v List.mem_cons_self) (ih fun v hv => hp' v (List.mem_cons_of_mem _ hv))
  obtain ⟨fs, t1, t2, t3⟩ := PySem.W.each_katTups er fun d hd => by
    obtain ⟨v, _, rfl⟩ := List.mem_map.mp hd
    exact ⟨_, _, rfl⟩
  refine PySem.W.kat_kind (T := .type "tuple") t1 (by omega) (fun f hf => ?_) (by decide) ?_
  · obtain ⟨x, r, as, m1, m2⟩ := t3 f hf
    obtain ⟨v, _, e⟩ := List.mem_map.mp m1
    injection e with e
    injection e with e _
    have := PySem.W.looks_reads (M := model prog w) m2
    rw [← e] at this
    exact this
  · have e : (Value.type "tuple" != Value.type "tuple") = false := by decide
    rw [e]
    exact hq
end
theorem each_in {α β : Type} {R : α → β → Prop} {f : α → β} : ∀ {l : List α}, (∀ a ∈ l, R a (f a)) → EachIs R l (l.map f)
  | [], _ => .nil
  | a :: l, h => .cons (h a List.mem_cons_self) (each_in fun b hb => h b (List.mem_cons_of_mem _ hb))
theorem Rk.of {t u : Tags} (h : ltT u t = false) : Rk t u := List.not_lt.mp (of_decide_eq_false h)
/-- sorted of a list of pairs -/
def rSortPr (K : PySem.W.Frag) : List V → Hp → VK → Prop := fun xs H Q => ∃ (p : Addr) (ys : List V) (ts : List Tags), xs = [.ref p] ∧ SqL K H p ys ∧ DpAll K H ys (ts.map prD) ∧ ts.length ≤ 100000 ∧
  ∀ (l : Addr) (zs : List V) (us : List Tags), H l = none → us.Perm ts → us.Pairwise Rk → DpAll K (upd H l (.lst zs)) zs (us.map prD) → Q (.ref l) (upd H l (.lst zs))
section
variable {X : Cx}
theorem cr_sortPr (hu : X.A.units + 80 < cLine) : CallR X (.builtin "sorted") (rSortPr X.K) := by
  intro pins s σ H xs us Q I r h
  obtain ⟨p, ys, ts, rfl, hs, hd, hz, q⟩ := h
  obtain ⟨its, rv, hl, hzz⟩ := I.list hs
  rw [Vals.ref1 r]
  have er := each_reads I rv hd
  have ev : EachIs (fun u d => ∃ v, RelV v u ∧ Dp X.K H v d) its (ts.map prD) := each_vals rv hd
  have hk : ∀ u ∈ its, PrAt s.heap u (kT s.heap u) := fun u hm => by
    obtain ⟨d, hdm, as, r⟩ := er.left u hm
    obtain ⟨t, _, rfl⟩ := List.mem_map.mp hdm
    rw [kT_eq ⟨as, r⟩]
    exact ⟨as, r⟩
  have both : EachIs (fun u t => PrAt s.heap u t ∧ ∃ v, RelV v u ∧ Dp X.K H v (prD t)) its ts := by
    have h1 := each_enc prD er
    have h2 := each_enc prD ev
    clear er ev hk hl rv hd hs q hz hzz
    induction h1 with
    | nil => exact .nil
    | cons a t ih => cases h2 with
      | cons b t2 => exact .cons ⟨a, b⟩ (ih t2)
  have hkm : its.map (kT s.heap) = ts := by
    clear er ev hk hl rv hd hs q hz hzz
    induction both with
    | nil => rfl
    | cons a t ih => rw [List.map_cons, kT_eq a.1, ih]
  have hlen : its.length = ts.length := by rw [← hkm, List.length_map]
  refine SrtO.sorted_ord (swoT (kT s.heap)) hl.isList (by rw [hlen]; exact sz_of hz) (fun h2 h₁ a' _ kk => prs_sortable (s0 := s) h2 hk (by show X.A.units + 1 + 1 + 70 < cLine; omega) kk) fun out h1 h2 => ?_
  obtain ⟨ep, he'⟩ := PyProof.Rows.sortedAll_at s.heap its out.toArray
  have ho : EachIs (fun u d => ∃ v, RelV v u ∧ Dp X.K H v d) out (out.map fun u => prD (kT s.heap u)) := each_in fun u hm => by
    obtain ⟨t, _, p1, v, hv⟩ := both.left u (h2.perm.mem_iff.mp hm)
    rw [kT_eq p1]
    exact ⟨v, hv⟩
  obtain ⟨zs, rz, dz⟩ := vals_each ho
  have hol : zs.length ≤ sizeLine := by
    have := dz.length
    rw [List.length_map, h2.perm.length_eq, hlen] at this
    rw [this]; exact sz_of hz
  have hn := I.hok.fresh (a := s.heap.objs.size + 1) (Nat.le_succ _)
  refine ⟨.ref _, upd H (s.heap.objs.size + 1) (.lst zs), I.laid (t' := s.toks) (fun _ _ => PyProof.Rows.sortedAll_old) (Nat.le_succ _) ⟨hol, out, ep, rz, he'⟩, rfl, ?_⟩
  refine q _ zs (out.map (kT s.heap)) hn (by rw [← hkm]; exact h2.perm.map _) ?_ (by rw [List.map_map]; exact dz.ex (Ex.new hn))
  exact List.Pairwise.map _ (fun a b h => Rk.of h) h1
end
end BB
/-! G6: dict(list of pairs), the keys tuples. -/
namespace BB
open PySem L2 Evl LamX PyProof.Rows
section
variable {X : Cx} {pins : List (Addr × Obj)} {σ : L2.St} {H : Hp} {s : Shared}
def PrKV (K : PySem.W.Frag) (H : Hp) (y : V) (kv : NestedKey × V) : Prop := ∃ t kk, y = .ref t ∧ SqT K H t [.ref kk, kv.2] ∧ KeyN kv.1 ∧ Dp K H (.ref kk) kv.1.data
theorem pairs_of (I : Inv X pins σ H s) : ∀ {ys : List V} {kvs : List (NestedKey × V)} {its : List Value}, Paired (PrKV X.K H) ys kvs → Vals ys its → ∃ (xs : List (NestedKey × Addr × Value)) (Ts : List Addr), its = Ts.map Value.ref ∧ KN X.K H kvs xs ∧
    PySem.W.EachIs (fun T x => PySem.PairAt s.heap T (.ref x.2.1) x.2.2) Ts xs
  | [], _, _, .nil, .nil => ⟨[], [], rfl, .nil, .nil⟩
  | y :: ys, (k, v) :: kvs, u :: us, .cons ⟨t, kk, e, h1, h2, h3⟩ p, .cons r q => by
    obtain ⟨xs, Ts, e1, e2, e3⟩ := pairs_of I p q
    subst e
    obtain rfl : u = .ref t := r
    obtain ⟨zs, rz, it, _⟩ := I.tuple h1
    obtain ⟨a, b, rfl, ra, rb⟩ := vals2 rz
    obtain rfl : a = .ref kk := ra
    exact ⟨(k, kk, b) :: xs, t :: Ts, by rw [e1]; rfl, .cons ⟨rfl, h2, h3, rb⟩ e2, .cons (.inl it) e3⟩
def rDictPr (P : Program) (w : World) (K : PySem.W.Frag) : List V → Hp → VK → Prop := fun vs H Q => ∃ (p : Addr) (ys : List V) (kvs : List (NestedKey × V)), vs = [.ref p] ∧ SqL K H p ys ∧ Paired (PrKV K H) ys kvs ∧ (kvs.map (·.1)).Nodup ∧ kvs.length ≤ 100000 ∧
  ∀ d H', H d = none → (∃ φ, H' = upd H d (.ext φ)) → DN P w K H' d kvs → Q (.ref d) H'
theorem each_at {α β : Type} {R : α → β → Prop} : ∀ {as : List α} {bs : List β} {j : Nat} {b : β}, PySem.W.EachIs R as bs → bs[j]? = some b → ∃ a, as[j]? = some a ∧ R a b
  | _, _, _, _, .nil, h => by simp at h
  | _, _, 0, _, .cons r t, h => by
    simp at h; subst h
    exact ⟨_, rfl, r⟩
  | _, _, j + 1, _, .cons r t, h => by
    obtain ⟨a, h1, h2⟩ := each_at t (j := j) (by simpa using h)
    exact ⟨a, by simpa using h1, h2⟩
theorem call_dictPr (hc : X.calm = true) (hu : RoomN X.A) : CallR X (.type "dict") (rDictPr X.prog X.w X.K) := by
  intro pins s σ H vs us Q I r h
  obtain ⟨p, ys, kvs, rfl, hs, hp, hn, hz, q⟩ := h
  obtain ⟨its, rv, hl, hzz⟩ := I.list hs
  rw [Vals.ref1 r]
  obtain ⟨xs, Ts, rfl, kn, et⟩ := pairs_of I hp rv
  have hxl := kn.len
  have htl := et.length
  obtain ⟨o, n, g1, g2, g3, g4⟩ := hl
  have hkey := kn.keys
  have hlp : (xs.map fun x => (Value.ref x.2.1, x.2.2)).length = xs.length := List.length_map ..
  have pi : PairItems s.heap (Ts.map Value.ref).toArray (fun j => Ts.getD j 0) (xs.map fun x => (Value.ref x.2.1, x.2.2)) := by
    refine ⟨by simp [htl], fun j k v hj => ?_⟩
    rw [List.getElem?_map] at hj
    cases hx : xs[j]? with
    | none => rw [hx] at hj; cases hj
    | some x =>
      rw [hx] at hj; cases hj
      obtain ⟨T, hT, pa⟩ := each_at et hx
      have e : Ts.getD j 0 = T := by rw [List.getD_eq_getElem?_getD, hT]; rfl
      simp only [e]
      exact ⟨by simp [hT], pa⟩
  refine call_dict_pairsH (knd := nestedKind X.prog X.w) (ps := xs) (PairArg.list p _ _ _) (I.ok.hd hc) ?_ ⟨⟨o, n, g1, g2, g3, g4⟩, pi⟩ ⟨hlp.symm, fun i key v hi => ?_⟩ (fun h' hk x hx => ?_) (by rw [hlp]; exact sz_of (by omega)) fun h' tk hd' hk => ?_
  · show X.A.units + 1 + 1 + 8 < cLine
    unfold RoomN at hu; omega
  · have hi : (xs.map fun x => (Value.ref x.2.1, x.2.2))[i]? = some (key, v) := hi
    rw [List.getElem?_map] at hi
    cases hx : xs[i]? with
    | none => rw [hx] at hi; cases hi
    | some x =>
      rw [hx] at hi; cases hi
      exact ⟨_, _, rfl, rfl⟩
  · exact nestedKind_stays.stays (fun b o _ _ e _ => hk b o (Nat.ne_of_lt (Heap.lt_size e)) (by simp) e) (kn_is I kn x hx)
  · have hnx : (xs.map (·.1)).Nodup := by rw [← hkey]; exact hn
    rw [storedAllH_nil_of_nodup xs hnx] at hd'
    obtain ⟨o', es, ep, f1, f2, f3, f4, _, _⟩ := hd'
    have hnn := I.hok.fresh (Nat.le_refl s.heap.objs.size)
    have e1 : Ex H (upd H s.heap.objs.size (.ext (rawN X.prog X.w s.heap.objs.size xs ep))) := Ex.new hnn
    refine ⟨.ref s.heap.objs.size, upd H s.heap.objs.size (.ext (rawN X.prog X.w s.heap.objs.size xs ep)), I.laid (t' := tk) (fun b o e => hk b o (by simp) e) (Nat.le_refl _) (ext_ok ⟨o', es, f1, f2, f3, f4⟩), rfl, q _ _ hnn ⟨_, rfl⟩ ?_⟩
    exact ⟨xs, ep, upd_same, beq_eq_false_iff_ne.mpr (Ne.symm (Nat.ne_of_lt I.big)), sz_of (by omega), hnx, kn.tk (TK.of_ex e1)⟩
end
end BB
/-! L5: the law's order. -/
namespace BB
open PySem L2 Evl LamX
theorem tagK_inj2 {t u : Tags} (h : tagK t = tagK u) : t = u := tagsD_inj (by rw [← tagK_data, ← tagK_data, h])
def prTrue (t : Tags) : PyData := .tuple [tagsD t, .bool true]
theorem ordL_perm (F : List Tags) : (ordL F).Perm F := List.mergeSort_perm F _
theorem ordL_eq {F G : List Tags} (hn : F.Nodup) (hp : G.Perm F) (ho : G.Pairwise Rk) : G = ordL F :=
  sorted_eq (hp.nodup_iff.mpr hn) ((ordL_perm F).nodup_iff.mpr hn) (fun t => hp.mem_iff.trans (ordL_perm F).mem_iff.symm) ho (ordL_sorted F)
section
variable {X : Cx} {P : Program} {w : World} {K : PySem.W.Frag} {σ : L2.St} {H : Hp} {te : TE} {F : List Tags}
theorem dictPrK (hc : X.calm = true) (hu : RoomN X.A) (hP : X.prog = P := by rfl) (hw : X.w = w := by rfl) (hK : X.K = K := by rfl) : CallR X (.type "dict") (rDictPr P w K) := hP ▸ hw ▸ hK ▸ call_dictPr hc hu
theorem srtPrK {k : Nat} (hr : Room k X.A) (h : X.K = K := by rfl) : CallR X (.builtin "sorted") (rSortPr K) := h ▸ cr_sortPr (by have := hr.un; omega)
theorem prs_kv : ∀ {F : List Tags} {xs : List V}, DpAll K H xs (F.map prTrue) → Paired (PrKV K H) xs (F.map fun t => (tagK t, V.bl true))
  | [], [], .nil => .nil
  | t :: F, x :: xs, .cons p ps => by
    obtain ⟨a, zs, rfl, h1, h2⟩ := dp_tup p
    obtain ⟨u, v, rfl, h3, h4⟩ := dpa2 h2
    obtain ⟨kk, us, rfl, h5, h6⟩ := dp_tup h3
    cases dp_bl h4
    exact .cons ⟨a, kk, rfl, h1, tagK_key t, by rw [tagK_data]; exact h3⟩ (prs_kv ps)
theorem ei_dictPr (h : ED K te σ H (.list (F.map prTrue))) (hn : F.Nodup) (hz : F.length ≤ 100000) : EI K (iKeysN P w (tCB (rDictPr P w K) (tCons te tNil))) σ H Ex (F.map tagsD) := fun R k => by
  refine h H (Ex.refl _) _ fun v H1 e1 p => ?_
  obtain ⟨l, xs, rfl, hl, hd⟩ := dp_lst p
  refine ⟨l, xs, F.map (fun t => (tagK t, V.bl true)), rfl, hl, prs_kv hd, ?_, by rw [List.length_map]; exact hz, fun d H2 hd2 hu2 dn => ?_⟩
  · rw [List.map_map]
    exact List.Pairwise.map _ (fun a b h e => h (tagK_inj2 e)) hn
  · obtain ⟨φ, hH2⟩ := hu2
    have e2 : Ex H1 H2 := by rw [hH2]; exact Ex.new hd2
    have hk : (F.map fun t => (tagK t, V.bl true)).map (fun p => p.1.data) = F.map tagsD := by
      rw [List.map_map]
      exact List.map_congr_left fun t _ => tagK_data t
    rw [← hk] at k
    obtain ⟨xs, ep, h1, h2, h3, h4, h5⟩ := dn
    have hd := h5.dps
    refine ⟨d, xs, ep, rfl, h1, h2, k _ H2 (e1.trans e2) ⟨fun j H' hj g => ?_, fun H' g => ?_, fun j H' x H'' hj g y => ?_⟩⟩
    · exact ⟨g _ _ h1, by rw [List.length_map, h5.len] at hj; exact hj⟩
    · exact ⟨g _ _ h1, by rw [List.length_map, h5.len]; exact Nat.le_refl _⟩
    · obtain ⟨rfl, q, hq, rfl⟩ := y
      refine ⟨Ex.refl _, ?_⟩
      have : (xs.map fun q => V.ref q.2.1)[j]? = some (.ref q.2.1) := by rw [List.getElem?_map, hq]; rfl
      obtain ⟨dd, e1, e2⟩ := hd.get this
      exact ⟨dd, e1, e2.ex g⟩
theorem rcd_sortPr (hn : F.Nodup) (hz : F.length ≤ 100000) : RCD K (rSortPr K) [.list (F.map prD)] (.list ((ordL F).map prD)) := fun H vs p Q q => by
  obtain ⟨x, rfl, px⟩ := dpa1 p
  obtain ⟨l, xs, rfl, h1, h2⟩ := dp_lst px
  refine ⟨l, xs, F, rfl, h1, h2, hz, fun l2 zs us hl2 hp ho hd => ?_⟩
  rw [ordL_eq hn hp ho] at hd
  exact q _ _ (Ex.new hl2) (.lst (.inl (.inl upd_same)) hd)
end
theorem stay_prD (t : Tags) : stay (prD t) = true := by
  show stayAll [rankD t, tagsD t] = true
  rw [stayAll_iff]
  intro d hd
  rcases List.mem_cons.mp hd with e | hd
  · rw [e]; exact stay_tupled _ (tupled_sch _)
  · rw [List.mem_singleton.mp hd]; exact stay_tupled _ (tupled_tags t)
theorem stay_prTrue (t : Tags) : stay (prTrue t) = true := by
  show stayAll [tagsD t, .bool true] = true
  rw [stayAll_iff]
  intro d hd
  rcases List.mem_cons.mp hd with e | hd
  · rw [e]; exact stay_tupled _ (tupled_tags t)
  · rw [List.mem_singleton.mp hd]; rfl
section
variable {P : Program} {w : World} {K : PySem.W.Frag} {mg : Str → Option Value} {base : Heap}
theorem sc__law_in_order : FnScope ["_law_lots", "_law_rows", "_law_one_here", "_law_row"] ["_law_lots"] (defScope st__law_in_order) := ⟨rfl, rfl, rfl, by decide +kernel, rfl, by decide +kernel, by decide +kernel⟩
theorem ok__law_in_order (T : Txt K mg) : FnOk P w K mg base CX0 2 T.d__law_in_order.f T.d__law_in_order.fd ["_law_lots"] (PureSp K fun ds res => ∃ F : List Tags, ds = [.list (F.map tagsD)] ∧ F.Nodup ∧ F.length ≤ 1000 ∧ (∀ t ∈ F, t.length ≤ 1000) ∧ res = lotsD (ordL F)) := by
  refine T.d__law_in_order.F.ok sc__law_in_order ?len (fun cdv A outer s H vs Q E hr h => ?_)
  case len =>
    rintro vs H Q E ⟨ds, d, h, ⟨F, rfl, _⟩, _⟩
    exact h.length
  obtain ⟨ds, res, hA, ⟨F, rfl, hn, hl, ht, rfl⟩, k⟩ := h
  obtain ⟨v, rfl, p⟩ := dpa1 hA
  refine ⟨_, (pss_cons (ps_set (i := 1) sc__law_in_order.nd rfl (by first | exact Or.inl rfl | exact Or.inr rfl) (pe_callB (srtPrK (K := K) hr) (by rfl) T.b_sorted (by decide +kernel) (pa_cons (pe_lc (own := [("_law_one_here", 2)]) rfl sc__law_in_order.nd (keysNK (P := P) (w := w) (pe_callTy (dictPrK (P := P) (w := w) (K := K) rfl (room_n hr)) (by rfl) T.b_dict (by decide +kernel) (pa_cons (pe_lc (own := [("_law_one_here", 2)]) rfl sc__law_in_order.nd (piLK (K := K) (pv 0)) (blkOk_by (own := [("_law_one_here", 2)]) (N := ["_law_lots", "_law_rows", "_law_one_here", "_law_row"]) (sc := defScope st__law_in_order) (by decide +kernel)) (fun _ _ _ _ _ => (pg_name (i := 2) sc__law_in_order.nd rfl (by first | exact Or.inl rfl | exact Or.inr rfl))) (fun _ _ _ _ _ => pts_nil) (fun _ _ _ _ _ => (pe_tup (pa_cons (pv 2) (pa_cons pe_bl pa_nil))))) pa_nil))) (blkOk_by (own := [("_law_one_here", 2)]) (N := ["_law_lots", "_law_rows", "_law_one_here", "_law_row"]) (sc := defScope st__law_in_order) (by decide +kernel)) (fun _ _ _ _ _ => (pg_name (i := 2) sc__law_in_order.nd rfl (by first | exact Or.inl rfl | exact Or.inr rfl))) (fun _ _ _ _ _ => pts_nil) (fun _ _ _ _ _ => (pe_tup (pa_cons (pe_call (ok__law_sort_key (P := P) (w := w) T) (hr.mono (by decide)) (by rfl) T.d__law_sort_key.g T.d__law_sort_key.F.kp T.d__law_sort_key.b .nil pass0 (pa_cons (pv 2) pa_nil)) (pa_cons (pv 2) pa_nil))))) pa_nil)))
      (pss_one (ps_ret (pe_callTy (tupK (K := K)) (by rfl) T.b_tuple (by decide +kernel) (pa_cons (pe_lc (own := [("_law_row", 3)]) rfl sc__law_in_order.nd (piLK (K := K) (pv 1)) (blkOk_by (own := [("_law_row", 3)]) (N := ["_law_lots", "_law_rows", "_law_one_here", "_law_row"]) (sc := defScope st__law_in_order) (by decide +kernel)) (fun _ _ _ _ _ => (pg_name (i := 3) sc__law_in_order.nd rfl (by first | exact Or.inl rfl | exact Or.inr rfl))) (fun _ _ _ _ _ => pts_nil) (fun _ _ _ _ _ => (pe_ix (ixTK (K := K)) (pv 3) pe_int (fun _ _ => rfl)))) pa_nil))))), ?_⟩
  have hol : (ordL F).length = F.length := (ordL_perm F).length_eq
  refine q_asgD (K := K) (ed_cb (eds_cons (ed_lcY (xs := F) (enc := tagsD) (w := prD) (fun H1 e1 => ei_dictPr (F := F) (ed_lcY (xs := F) (enc := tagsD) (w := prTrue) (fun H2 e2 => ei_lst (ed_var rfl ((p.ex e1).ex e2))) (by omega) (fun t _ => stay_prTrue t) (fun _ => rfl)
    (fun t x H2 _ e2 px => ed_tup (eds_cons (ed_var rfl px) (eds_cons ed_bl eds_nil)) (by show 2 ≤ 100000; decide))) hn (by omega)) (by omega) (fun t _ => stay_prD t) (fun _ => rfl)
    (fun t x H2 htm e2 px => ed_tup (eds_cons (ed_call (eds_cons (ed_var rfl px) eds_nil) ⟨t, rfl, ht t htm, rfl⟩) (eds_cons (ed_var rfl px) eds_nil)) (by show 2 ≤ 100000; decide))) eds_nil) (rcd_sortPr hn (by omega))) fun z H1 e1 pz => ?_
  exact s_retD (ed_cb (eds_cons (ed_lcY (xs := ordL F) (enc := prD) (w := tagsD) (fun H2 e2 => ei_lst (ed_var rfl (pz.ex e2))) (by omega) (fun t _ => stay_tupled _ (tupled_tags t)) (fun _ => rfl)
    (fun t x H2 _ e2 px => ed_op (ed_var rfl px) ed_int (rd_ixT (i := 1) rfl))) eds_nil) rcd_tuple) fun u H2 e2 pu => k u H2 (e1.trans e2) pu
end
end BB
/-! L6: the law's greatest lots. -/
namespace BB
open PySem L2 Evl LamX
theorem eqv_tags {t u : Tags} : PyData.eqv (tagsD t) (tagsD u) = decide (t = u) := by
  rw [Bool.eq_iff_iff, decide_eq_true_iff, eqv_tupled _ _ (tupled_tags t) (tupled_tags u)]
  exact ⟨tagsD_inj, fun h => h ▸ rfl⟩
noncomputable def lotsT (B : List (List Int)) (R : List (List (List Int))) : List Tags := (everyT R).filter fun t => isLotB B R t
noncomputable def topT (B : List (List Int)) (R : List (List (List Int))) : List Tags := (lotsT B R).filter fun t => ((lotsT B R).filter fun u => !decide (u = t) && inB t u).isEmpty
noncomputable def dueL (B : List (List Int)) (R : List (List (List Int))) : List Tags := ordL (topT B R)
theorem everyT_mem {R : List (List (List Int))} {t : Tags} : t ∈ everyT R ↔ Full R t ∧ t.any Option.isSome = true := by
  unfold everyT
  rw [List.mem_filter, evT_mem]
theorem everyT_small {B : List (List Int)} {R : List (List (List Int))} (h : DataG B R) : (everyT R).length ≤ 256 := by
  have h1 := evT_small h.few (by rw [h.len]; exact h.small) R.length
  rw [List.take_length] at h1
  have h2 : (everyT R).length ≤ (evT R [[]]).length := List.length_filter_le _ _
  omega
theorem everyT_nodup (R : List (List (List Int))) : (everyT R).Nodup := (evT_nodup R _ (by simp)).filter _
section
variable {P : Program} {w : World} {K : PySem.W.Frag} {mg : Str → Option Value} {base : Heap}
theorem sc__law_greatest : FnScope ["_law_book", "_law_data_here", "_law_lots", "_law_tags", "_law_one_here", "_law_two"] ["_law_book", "_law_data_here"] (defScope st__law_greatest) := ⟨rfl, rfl, rfl, by decide +kernel, rfl, by decide +kernel, by decide +kernel⟩
theorem ok__law_greatest (T : Txt K mg) : FnOk P w K mg base CX0 6 T.d__law_greatest.f T.d__law_greatest.fd ["_law_book", "_law_data_here"] (NSp K fun B ds res => ∃ R : List (List (List Int)), ds = [dataD R] ∧ DataG B R ∧ res = lotsD (dueL B R)) := by
  refine T.d__law_greatest.F.ok sc__law_greatest ?len (fun cdv A outer s H vs Q E hr h => ?_)
  case len =>
    rintro vs H Q E ⟨v0, rest, B, ds, d, rfl, _, h, ⟨R, rfl, _⟩, _⟩
    exact congrArg Nat.succ h.length
  obtain ⟨v0, rest, B, ds, res, rfl, hB, hA, ⟨R, rfl, hD, rfl⟩, k⟩ := h
  obtain ⟨u1, rfl, p1⟩ := dpa1 hA
  refine ⟨_, (pss_cons (ps_set (i := 2) sc__law_greatest.nd rfl (by first | exact Or.inl rfl | exact Or.inr rfl) (pe_lc (own := [("_law_tags", 3)]) rfl sc__law_greatest.nd (piLK (K := K) (pe_call (ok__law_every_tags (P := P) (w := w) T) (hr.mono (by decide)) (by rfl) T.d__law_every_tags.g T.d__law_every_tags.F.kp T.d__law_every_tags.b .nil pass0 (pa_cons (pv 1) pa_nil))) (blkOk_by (own := [("_law_tags", 3)]) (N := ["_law_book", "_law_data_here", "_law_lots", "_law_tags", "_law_one_here", "_law_two"]) (sc := defScope st__law_greatest) (by decide +kernel)) (fun _ _ _ _ _ => (pg_name (i := 3) sc__law_greatest.nd rfl (by first | exact Or.inl rfl | exact Or.inr rfl))) (fun _ _ _ _ _ => pts_one (pt_val (pe_call (ok__law_are_lot (P := P) (w := w) T) (hr.mono (by decide)) (by rfl) T.d__law_are_lot.g T.d__law_are_lot.F.kp T.d__law_are_lot.b .nil pass0 (pa_cons (pv 0) (pa_cons (pv 1) (pa_cons (pv 3) pa_nil)))))) (fun _ _ _ _ _ => (pv 3))))
      (pss_one (ps_ret (pe_call (ok__law_in_order (P := P) (w := w) T) (hr.mono (by decide)) (by rfl) T.d__law_in_order.g T.d__law_in_order.F.kp T.d__law_in_order.b .nil pass0 (pa_cons (pe_lc (own := [("_law_one_here", 4)]) rfl sc__law_greatest.nd (piLK (K := K) (pv 2)) (blkOk_by (own := [("_law_one_here", 4)]) (N := ["_law_book", "_law_data_here", "_law_lots", "_law_tags", "_law_one_here", "_law_two"]) (sc := defScope st__law_greatest) (by decide +kernel)) (fun _ _ _ _ _ => (pg_name (i := 4) sc__law_greatest.nd rfl (by first | exact Or.inl rfl | exact Or.inr rfl))) (fun _ _ _ _ _ => pts_one (pt_cmpR (eqEK (K := K) hr) (pe_lc (own := [("_law_two", 5)]) rfl sc__law_greatest.nd (piLK (K := K) (pv 2)) (blkOk_by (own := [("_law_two", 5)]) (N := ["_law_book", "_law_data_here", "_law_lots", "_law_tags", "_law_one_here", "_law_two"]) (sc := (relabel _ _)) (by rfl)) (fun _ _ _ _ _ => (pg_name (i := 5) sc__law_greatest.nd rfl (by first | exact Or.inl rfl | exact Or.inr rfl))) (fun _ _ _ _ _ => pts_one (PW.pt (pw_and (pt_cmpR (neDK (K := K) hr) (pv 5) (pv 4) (nomark _)) (pw_and1 (pt_val (pe_call (ok__law_is_in (P := P) (w := w) T) (hr.mono (by decide)) (by rfl) T.d__law_is_in.g T.d__law_is_in.F.kp T.d__law_is_in.b .nil pass0 (pa_cons (pv 4) (pa_cons (pv 5) pa_nil)))))))) (fun _ _ _ _ _ => (pv 5))) (pe_lst pa_nil) (nomark _))) (fun _ _ _ _ _ => (pv 4))) pa_nil))))), ?_⟩
  have hsm := hD.small
  have hes := everyT_small hD
  have hls : (lotsT B R).length ≤ (everyT R).length := List.length_filter_le _ _
  have hts : (topT B R).length ≤ (lotsT B R).length := List.length_filter_le _ _
  have hfull : ∀ t ∈ everyT R, t.length = B.length ∧ InR R t := fun t ht => by
    obtain ⟨⟨h1, h2⟩, _⟩ := everyT_mem.mp ht
    exact ⟨by rw [h1, hD.len], h2⟩
  have hlf : ∀ t ∈ lotsT B R, t.length = B.length ∧ InR R t := fun t ht => hfull t (List.mem_filter.mp ht).1
  have hst : ∀ t : Tags, stay (tagsD t) = true := fun t => stay_tupled _ (tupled_tags t)
  refine q_asgD (K := K) (d := .list ((lotsT B R).map tagsD)) (ed_lc (xs := everyT R) (enc := tagsD) (f := fun t => isLotB B R t) (w := tagsD) (fun H1 e1 => ei_lst (ed_call (eds_cons (ed_var rfl (p1.ex e1)) eds_nil) ⟨R, rfl, by rw [hD.len]; exact hsm, hD.few, rfl⟩)) (by omega) (fun t _ _ => hst t) (fun _ => rfl)
    (fun t x H1 ht e1 px => et_B (ed_callN (eb_var rfl (hB.ex e1)) (eds_cons (ed_var rfl (p1.ex e1)) (eds_cons (ed_var rfl px) eds_nil)) ⟨R, t, rfl, hD, ⟨(hfull t ht).1, (hfull t ht).2⟩, rfl⟩)) (fun t x H1 _ e1 px _ => ed_var rfl px)) fun z H1 e1 pz => ?_
  refine s_retD (K := K) (ed_call (eds_cons (ed_lc (xs := lotsT B R) (enc := tagsD) (f := fun t => ((lotsT B R).filter fun u => !decide (u = t) && inB t u).isEmpty) (w := tagsD) (fun H2 e2 => ei_lst (ed_var rfl (pz.ex e2))) (by omega) (fun t _ _ => hst t) (fun _ => rfl)
    (fun t x H2 ht e2 px => ET.is (et_test (ed_op (ed_lc (xs := lotsT B R) (enc := tagsD) (f := fun u => !decide (u = t) && inB t u) (w := tagsD) (fun H3 e3 => ei_lst (ed_var rfl ((pz.ex e2).ex e3))) (by omega) (fun t _ _ => hst t) (fun _ => rfl)
      (fun u y H3 hu e3 py => et_and' (ET.is (et_test (ed_op (ed_var rfl py) (ed_var rfl (px.ex e3)) (rd_neD (shaped_tags u) (shaped_tags t)))) (by rw [eqv_tags])) fun _ => et_B (ed_call (eds_cons (ed_var rfl (px.ex e3)) (eds_cons (ed_var rfl py) eds_nil)) ⟨t, u, rfl, by rw [(hlf t ht).1, (hlf u hu).1], by rw [(hlf t ht).1]; omega, rfl⟩)) (fun u y H3 _ e3 py _ => ed_var rfl py))
      (ed_lst (ds := []) eds_nil (by show 0 ≤ 100000; decide)) rd_eqE)) ?_) (fun t x H2 _ e2 px _ => ed_var rfl px)) eds_nil) ⟨topT B R, rfl, ((everyT_nodup R).filter _).filter _, by omega, fun t ht => ?_, rfl⟩) fun v H2 e2 pv => k v H2 (e1.trans e2) pv
  · generalize (lotsT B R).filter _ = l
    cases l <;> rfl
  · rw [(hlf t (List.mem_filter.mp ht).1).1]; omega
end
end BB
/-! M6: the law's greatest lots are the program's. -/
namespace BB
section
variable {B : List (List Int)} {R : List (List (List Int))} {t u : Tags}
theorem tOf_some {i a : Nat} : tOf t i = some a ↔ t[i]? = some (some a) := by
  unfold tOf
  rw [List.getD_eq_getElem?_getD]
  cases q : t[i]? with
  | none => simp
  | some x => simp
theorem sup_have (hl : t.length = B.length) : (net B R).sup (tOf t) = haveN t := by
  rw [← fill_eq, hl]; rfl
theorem isLt_iff (hl : t.length = B.length) : (net B R).IsLt (tOf t) ↔ InR R t ∧ IsLot B R t := by
  have ok := net_ok B R
  constructor
  · intro h
    refine ⟨fun m k hm => (h.row m k (tOf_some.mpr hm)).2, ?_, fun i a j b hi hj hij => h.agree i a j b (tOf_some.mpr hi) (tOf_some.mpr hj) (by omega)⟩
    obtain ⟨s, hs, hall⟩ := h.conn
    have hsm : s ∈ haveN t := by rw [← sup_have (R := R) hl]; exact (Net.mem_sup h).mpr hs
    cases q : haveN t with
    | nil => rw [q] at hsm; cases hsm
    | cons s0 r =>
      refine ⟨s0, r, rfl, fun x hx => ?_⟩
      rw [← q] at hx ⊢
      have h0 : s0 ∈ haveN t := by rw [q]; exact List.mem_cons_self
      rw [← sup_have (R := R) hl] at hx h0 ⊢
      exact h.reach ok ((Net.mem_sup h).mp h0) ((Net.mem_sup h).mp hx)
  · rintro ⟨hin, ⟨s, r, hg, hall⟩, hag⟩
    refine ⟨fun i a hi => ?_, fun i a j b hi hj hne => ?_, s, ?_, fun x hx => ?_⟩
    · have hi := tOf_some.mp hi
      exact ⟨by show i < B.length; rw [← hl]; exact (List.getElem?_eq_some_iff.mp hi).1, hin i a hi⟩
    · have hi := tOf_some.mp hi
      have hj := tOf_some.mp hj
      show agreeB B R i a j b = true
      by_cases h : i < j
      · exact hag i a j b hi hj h
      · rw [show agreeB B R i a j b = agreeB B R j b i a from ok.agsymm i a j b]
        exact hag j b i a hj hi (by omega)
    · have : s ∈ haveN t := by rw [hg]; exact List.mem_cons_self
      obtain ⟨a, ha⟩ := haveN_mem.mp this
      rw [tOf_some.mpr ha]; rfl
    · obtain ⟨a, ha⟩ := Option.isSome_iff_exists.mp hx
      rw [sup_have hl]
      exact hall x (haveN_mem.mpr ⟨a, tOf_some.mp ha⟩)
theorem any_of_lot (hl : t.length = B.length) (h : (net B R).IsLt (tOf t)) : t.any Option.isSome = true := by
  obtain ⟨s, hs, _⟩ := h.conn
  obtain ⟨a, ha⟩ := Option.isSome_iff_exists.mp hs
  rw [List.any_eq_true]
  exact ⟨_, List.mem_of_getElem? (tOf_some.mp ha), rfl⟩
theorem lotsT_mem (hD : DataG B R) : t ∈ lotsT B R ↔ t.length = B.length ∧ (net B R).IsLt (tOf t) := by
  unfold lotsT
  rw [List.mem_filter, everyT_mem, isLotB_iff]
  constructor
  · rintro ⟨⟨⟨h1, h2⟩, _⟩, h3⟩
    have hl : t.length = B.length := by rw [h1, hD.len]
    exact ⟨hl, (isLt_iff hl).mpr ⟨h2, h3⟩⟩
  · rintro ⟨hl, h⟩
    obtain ⟨h2, h3⟩ := (isLt_iff hl).mp h
    exact ⟨⟨⟨by rw [hl, hD.len], h2⟩, any_of_lot hl h⟩, h3⟩
theorem inB_le (hl : t.length = u.length) : inB t u = true ↔ Net.Le (tOf t) (tOf u) := by
  rw [inB_iff]
  exact ⟨fun h i a hi => h i a (tOf_some.mp hi), fun h i a hi => h i a (tOf_some.mpr hi)⟩
theorem of_lt {U : Lt} (h : (net B R).IsLt U) : ∃ u : Tags, u.length = B.length ∧ tOf u = U := by
  refine ⟨(List.range B.length).map U, by rw [List.length_map, List.length_range], funext fun i => ?_⟩
  unfold tOf
  rw [List.getD_eq_getElem?_getD, List.getElem?_map]
  by_cases hi : i < B.length
  · rw [List.getElem?_range hi]; rfl
  · rw [List.getElem?_eq_none (by rw [List.length_range]; omega)]
    cases q : U i with
    | none => rfl
    | some a => exact absurd (h.row i a q).1 hi
theorem topT_mem (hD : DataG B R) : t ∈ topT B R ↔ t.length = B.length ∧ (net B R).Mx (tOf t) := by
  unfold topT
  rw [List.mem_filter, lotsT_mem hD, List.isEmpty_iff, List.filter_eq_nil_iff]
  constructor
  · rintro ⟨⟨hl, h⟩, hn⟩
    refine ⟨hl, h, fun U hU hle => ?_⟩
    obtain ⟨u, hu, rfl⟩ := of_lt hU
    have := hn u ((lotsT_mem hD).mpr ⟨hu, hU⟩)
    rw [(inB_le (by rw [hl, hu])).mpr hle, Bool.and_true] at this
    have e : u = t := by simpa using this
    rw [e]
  · rintro ⟨hl, hm⟩
    refine ⟨⟨hl, hm.lot⟩, fun u hu hq => ?_⟩
    obtain ⟨hul, hut⟩ := (lotsT_mem hD).mp hu
    rw [Bool.and_eq_true] at hq
    have hle := (inB_le (by rw [hl, hul])).mp hq.2
    have := tOf_inj (hul.trans hl.symm) (hm.max _ hut hle)
    rw [this, decide_eq_true rfl] at hq
    cases hq.1
theorem dueL_due (hD : DataG B R) : Due B R (dueL B R) := by
  have hn : (topT B R).Nodup := ((everyT_nodup R).filter _).filter _
  refine ⟨⟨(ordL_perm _).nodup_iff.mpr hn, fun t => ?_⟩, ordL_sorted _⟩
  rw [← topT_mem hD]
  exact (ordL_perm _).mem_iff
/-- lots lie in greatest ones -/
theorem filled_le {T U : Lt} (hT : (net B R).IsLt T) (hU : (net B R).IsLt U) (hle : Net.Le T U) (hne : U ≠ T) : ((List.range B.length).filter fun i => (T i).isSome).length < ((List.range B.length).filter fun i => (U i).isSome).length := by
  have h1 : ∀ i, (T i).isSome = true → (U i).isSome = true := fun i hi => by
    obtain ⟨a, ha⟩ := Option.isSome_iff_exists.mp hi
    rw [hle i a ha]; rfl
  obtain ⟨y, hy1, hy2⟩ : ∃ y, (U y).isSome = true ∧ (T y).isSome = false := Classical.byContradiction fun q => hne (funext fun x => by
    cases ht : T x with
    | some a => exact hle x a ht
    | none =>
      cases hu : U x with
      | none => rfl
      | some b => exact absurd ⟨x, by rw [hu]; rfl, by rw [ht]; rfl⟩ q)
  obtain ⟨b, hb⟩ := Option.isSome_iff_exists.mp hy1
  have hyB : y < B.length := (hU.row y b hb).1
  have key : ∀ l : List Nat, y ∈ l → (l.filter fun i => (T i).isSome).length < (l.filter fun i => (U i).isSome).length := by
    have mono : ∀ l : List Nat, (l.filter fun i => (T i).isSome).length ≤ (l.filter fun i => (U i).isSome).length := by
      intro l
      induction l with
      | nil => exact Nat.le_refl _
      | cons a l ih =>
        rw [List.filter_cons, List.filter_cons]
        by_cases ha : (T a).isSome = true
        · rw [if_pos ha, if_pos (h1 a ha), List.length_cons, List.length_cons]; omega
        · rw [if_neg ha]
          by_cases hb : (U a).isSome = true
          · rw [if_pos hb, List.length_cons]; omega
          · rw [if_neg hb]; exact ih
    intro l hl
    induction l with
    | nil => cases hl
    | cons a l ih =>
      rw [List.filter_cons, List.filter_cons]
      rcases List.mem_cons.mp hl with e | hl
      · subst e
        rw [if_neg (by rw [hy2]; simp), if_pos hy1, List.length_cons]
        have := mono l
        omega
      · have := ih hl
        by_cases ha : (T a).isSome = true
        · rw [if_pos ha, if_pos (h1 a ha), List.length_cons, List.length_cons]; omega
        · rw [if_neg ha]
          by_cases hb : (U a).isSome = true
          · rw [if_pos hb, List.length_cons]; omega
          · rw [if_neg hb]; exact this
  exact key _ (List.mem_range.mpr hyB)
theorem above : ∀ (n : Nat) {T : Lt}, (net B R).IsLt T → B.length - ((List.range B.length).filter fun i => (T i).isSome).length ≤ n → ∃ U, (net B R).Mx U ∧ Net.Le T U := by
  intro n
  induction n with
  | zero =>
    intro T hT hn
    refine ⟨T, ⟨hT, fun U hU hle => Classical.byContradiction fun hne => ?_⟩, fun i a h => h⟩
    have h1 := filled_le hT hU hle hne
    have h2 : ((List.range B.length).filter fun i => (U i).isSome).length ≤ B.length := by
      have := List.length_filter_le (fun i => (U i).isSome) (List.range B.length)
      rwa [List.length_range] at this
    omega
  | succ n ih =>
    intro T hT hn
    by_cases hm : ∃ U, (net B R).IsLt U ∧ Net.Le T U ∧ U ≠ T
    · obtain ⟨U, hU, hle, hne⟩ := hm
      have h1 := filled_le hT hU hle hne
      obtain ⟨V, hV, hle2⟩ := ih hU (by omega)
      exact ⟨V, hV, fun i a h => hle2 i a (hle i a h)⟩
    · exact ⟨T, ⟨hT, fun U hU hle => Classical.byContradiction fun hne => hm ⟨U, hU, hle, hne⟩⟩, fun i a h => h⟩
/-- each row lies in a greatest lot -/
theorem due_row {G : List Tags} (h : Due B R G) {i a : Nat} (hi : i < B.length) (ha : a < (R.getD i []).length) : ∃ t ∈ G, t[i]? = some (some a) := by
  obtain ⟨U, hU, hle⟩ := above B.length (Net.one_lot (N := net B R) (s := i) (t := a) ⟨hi, ha⟩) (by omega)
  obtain ⟨u, hu, rfl⟩ := of_lt hU.lot
  exact ⟨u, (h.lots.2 u).mpr ⟨hu, hU⟩, tOf_some.mp (hle i a (by show (if i = i then some a else none) = some a; rw [if_pos rfl]))⟩
end
end BB
/-! G7: a def's promise where nothing is being shown (no guard on the way); repr of data. -/
namespace BB
open PySem L2 Evl LamX PyProof.Rows
structure FnG (P : Program) (w : World) (K : PySem.W.Frag) (mg : Str → Option Value) (base : Heap) (k : Nat) (f : Addr) (fd : FuncData) (ps : List Str) (sp : Sp) : Prop where
  len : ∀ vs H Q E, sp vs H Q E → vs.length = ps.length
  run : ∀ (A : Around) (outer : List Env) (s : Shared) (H : Hp) (args : Args) (us : List Value) (vs : List V) (Q : VK) (E : XK), A.guards = some [] → Room k A → Env0 P w K mg base A outer s H → BindsTo s fd args (ps.zip us) → Vals vs us → sp vs H Q E →
    codeAny (model P w) A (.call (.ref f) args) (CR CX0 outer P w H s Q E) s
theorem FnG.of {P : Program} {w : World} {K : PySem.W.Frag} {mg : Str → Option Value} {base : Heap} {x qual : Str} {st : Stmt} {f : Addr} {fd : FuncData} {N ps : List Str} {k : Nat} {sp : Sp} (S : FnScope N ps (defScope st)) (cdv : Value)
    (ex : ∃ (oc : Value) (od : Option Addr) (kV doc pm : Value) (an : Option Addr) (ct : Value) (osl : Array (Option Value)), fd = PySem.W.fnOf x qual (defArgs st) (defBody st) (defScope st) .none kV doc pm an cdv ct ∧ K.lookup f = some ⟨oc, od, .func fd, osl⟩ ∧ PySem.W.codeIn K cdv qual = true)
    (len : ∀ vs H Q E, sp vs H Q E → vs.length = ps.length)
    (hbody : ∀ (A : Around) (outer : List Env) (s : Shared) (H : Hp) (vs : List V) (Q : VK) (E : XK), A.guards = some [] → Room k (A.deeper (envOfC qual (defScope st) s.heap.objs.size f cdv)) → sp vs H Q E →
      ∃ t, PSs (cxOf CX0 P w K mg base N qual (defScope st) f cdv A outer s H E).nox (defBody st) t ∧ t { nx := fun _ H' => Q .non H', rt := Q } (L2.start N vs) H) : FnG P w K mg base (k + 1) f fd ps sp := by
  obtain ⟨oc, od, kV, doc, pm, an, ct, osl, rfl, lk, hcd⟩ := ex
  refine ⟨len, fun A outer s H args us vs Q E hgd hr e0 hb r hsp => ?_⟩
  have hl := len _ _ _ _ hsp
  have KX : K.In s.heap := e0.mod.kin.keeps fun b o e => (e0.bs b o e).1
  have lim : s.heap.NoLimit := e0.mod.nolimit.keeps fun b o e => (e0.bs b o e).1
  have hkind : ∀ y ∈ ps.zip us, (defScope st).names.lookup y.1 = some .local ∨ ((defScope st).names.lookup y.1 = some .cell ∧ ((cellsFrom (s.heap.objs.size + 1) (defScope st).names []).lookup y.1).isSome = true) := fun ⟨n, v⟩ hy => by
    rcases S.par n (List.of_mem_zip hy).1 with q | q
    · exact .inl q
    · exact .inr ⟨q, PySem.W.cellsFrom_some _ _ _ (.inl q)⟩
  refine codeAny_call_function hr.depth (KX _ _ lk) rfl S.co S.gen rfl (PySem.W.codeRec_of KX hcd) (hb _ _ _ _ ?_)
  refine wpAny_newFunctionEnv_cells S.kind hkind fun env he s1 x => ?_
  subst he
  refine ⟨lim.keeps x.toInCall.keep, codeAny_func ?_⟩
  obtain ⟨t, ht, hq⟩ := hbody A outer s H vs Q E hgd (hr.deeper _) hsp
  have I : Inv (cxOf CX0 P w K mg base N qual (defScope st) f cdv A outer s H E) [] (L2.start N vs) H s1 := inv_start S hr.hd e0 hl r x
  refine wpAny_mono (ht.nox.run [] s1 (L2.start N vs) H _ I hq) (fun fl s' hs => ?_) fun e s' hs => hs
  have fin : ∀ {σ' : L2.St} {H' : Hp} {v : V} {u : Value}, Inv (cxOf CX0 P w K mg base N qual (defScope st) f cdv A outer s H E) [] σ' H' s' → RelV v u → Q v H' → CE outer P w H s Q u s' :=
    fun {σ' H' v u} J rv q => ⟨v, H', J.os, J.bare, J.base, J.hok, rv, q⟩
  cases fl with
  | ret u =>
    obtain ⟨v, σ', H', J, rv, q⟩ := hs
    exact fin J rv q
  | next =>
    obtain ⟨σ', H', J, q⟩ := hs
    exact fin (v := V.non) (u := Value.none) J rfl q
  | brk =>
    obtain ⟨_, _, _, q⟩ := hs
    exact False.elim q
  | cont =>
    obtain ⟨_, _, _, q⟩ := hs
    exact False.elim q
section
variable {X : Cx} {k : Nat} {f : Addr} {fd : FuncData} {ps : List Str} {sp : Sp} {E : XK} {x : Str} {p pos : Pos} {e : Expr} {es : List Expr} {t : TA}
theorem pe_callG (F : FnG X.prog X.w X.K X.mg X.base k f fd ps sp) (hgd : X.A.guards = some []) (hr : Room k X.A) (hg : Gl X x) (hm : X.mg x = some (.ref f)) (hk : PySem.W.keepIn X.K (.ref f) = true) (hb : Binds X.K fd ps []) (hx : Passes CX0 X E)
    (ha : PA X (e :: es) t) (hdb : (x == ("__debug__" : Str)) = false := by decide) (he : starEach (e :: es) X.env = (false, eval e X.env) :: starEach es X.env := by rfl) (hpl : (backTo pos (starEach es X.env)).any (·.1) = false := by rfl) :
    PE X (.Call (.Name x p) (e :: es) [] pos) (tCall sp [] E t) := by
  refine ⟨fun pins s σ H Q I h => ?_⟩
  refine wpAny_Call_Name_kw (ld_glob I hg hm ?_ hdb)
  refine PySem.W.callWith_K (h₀ := X.base) I.ok.mod.kin hk (thn (ha.run pos pins s σ H _ I h) fun us s1 ⟨vs, H1, I1, r, q⟩ => ⟨I1.kIn, ?_⟩) he hpl
  have q : sp (vs ++ []) H1 Q E := q
  rw [List.append_nil] at q
  have hl : (us ++ []).length = ps.length := by rw [List.append_nil, ← r.length]; exact F.len _ _ _ _ q
  have hb' := hb s1 us I1.kIn hl
  rw [List.append_nil] at hb'
  refine wpAny_call (codeAny_mono (F.run X.A X.stack s1 H1 ⟨us, []⟩ us vs Q E hgd hr I1.env0 hb' r q) fun r s' hq => ?_)
  cases r with
  | error e => exact hx pins σ H1 s1 e s' I1 hq
  | ok fl =>
    cases fl with
    | ret u => exact I1.after hq
    | next => exact False.elim hq
    | brk => exact False.elim hq
    | cont => exact False.elim hq
end
/-! ### repr -/
def ShowOk (d : PyData) : Prop := d.showable = true ∧ d.hasDict = false ∧ d.depth ≤ 60 ∧ d.shown.length ≤ sizeLine ∧ ∃ xs, d = .tuple xs
def rRepr (K : PySem.W.Frag) : List V → Hp → VK → Prop := fun vs H Q => (∃ p d, vs = [.ref p] ∧ Dp K H (.ref p) d ∧ ShowOk d ∧ Q (.str d.shown) H) ∨ ∃ b, vs = [.bl b] ∧ Q (.str (if b then "True" else "False")) H
theorem cr_repr {k : Nat} {X : Cx} (hgd : X.A.guards = some []) (hr : Room k X.A) : CallR X (.builtin "repr") (rRepr X.K) := by
  intro pins s σ H vs us Q I r h
  rcases h with ⟨p, d, rfl, pd, ⟨h1, h2, h3, h4, _⟩, q⟩ | ⟨b, rfl, q⟩
  · rw [Vals.ref1 r]
    obtain ⟨as, hd⟩ := Dp.reads I d _ _ pd rfl
    refine PySem.repr_of_reads' hd h1 (PyData.noDict_hsm h2) hgd (by have := hr.un; omega) (fun b o e => e) (fun h' u tk hk => ?_) h4
    exact ⟨.str d.shown, H, I.kept (t' := tk) hk, ⟨_, rfl⟩, q⟩
  · obtain ⟨u, rfl, ru⟩ := vals1 r
    obtain rfl : u = .bool b := ru
    exact P.repr_of_bool ⟨.str _, H, I.tok _, ⟨_, rfl⟩, q⟩
end BB
/-! M7: the lots' text is short. -/
namespace BB
open PySem L2 Evl LamX
theorem shownAll_map : ∀ ds : List PyData, PyData.shownAll ds = ds.map PyData.shown
  | [] => by simp [PyData.shownAll]
  | d :: ds => by simp [PyData.shownAll, shownAll_map ds]
theorem tupleText_le (ts : List Str) : (tupleText ts).length ≤ piled ts + 4 := by
  unfold tupleText
  rw [strLen_append, strLen_append]
  have h1 : (("(" : String) : Str).length = 1 := rfl
  have h2 : (((if ts.length == 1 then ",)" else ")" : String)) : Str).length ≤ 2 := by
    cases ts.length == 1 <;> decide
  rw [h1]
  by_cases h : ts = []
  · subst h
    have : (Str.join ", " []).length = 0 := by decide
    rw [this]; omega
  · have := join_length_add ts h
    omega
theorem piled_le {n : Nat} : ∀ {ts : List Str}, (∀ t ∈ ts, t.length ≤ n) → piled ts ≤ (n + 2) * ts.length
  | [], _ => by simp [piled]
  | t :: ts, h => by
    rw [piled_cons, List.length_cons, Nat.mul_succ]
    have h1 := h t List.mem_cons_self
    have h2 := piled_le (ts := ts) fun x hx => h x (List.mem_cons_of_mem _ hx)
    omega
theorem shown_tag {a : Option Nat} (h : ∀ k, a = some k → k < 3) : (tagD a).shown.length ≤ 4 := by
  cases a with
  | none => decide +kernel
  | some k =>
    have := h k rfl
    have : k = 0 ∨ k = 1 ∨ k = 2 := by omega
    rcases this with rfl | rfl | rfl <;> decide +kernel
theorem show_tags {t : Tags} (h : ∀ a ∈ t, ∀ k, a = some k → k < 3) (hl : t.length ≤ 4) : (tagsD t).shown.length ≤ 28 ∧ (tagsD t).showable = true ∧ (tagsD t).hasDict = false := by
  refine ⟨?_, ?_, ?_⟩
  · show (PyData.tuple (t.map tagD)).shown.length ≤ 28
    rw [PyData.shown, shownAll_map]
    have h1 := tupleText_le ((t.map tagD).map PyData.shown)
    have h2 := piled_le (n := 4) (ts := (t.map tagD).map PyData.shown) fun x hx => by
      obtain ⟨d, hd, rfl⟩ := List.mem_map.mp hx
      obtain ⟨a, ha, rfl⟩ := List.mem_map.mp hd
      exact shown_tag (h a ha)
    rw [List.length_map, List.length_map] at h2
    omega
  · show (PyData.tuple (t.map tagD)).showable = true
    rw [PyData.showable]
    clear hl
    induction t with
    | nil => rfl
    | cons a t ih =>
      rw [List.map_cons, PyData.showableAll, ih fun b hb => h b (List.mem_cons_of_mem _ hb), Bool.and_true]
      cases a with
      | none => rfl
      | some k =>
        have := h (some k) List.mem_cons_self k rfl
        have : k = 0 ∨ k = 1 ∨ k = 2 := by omega
        rcases this with rfl | rfl | rfl <;> decide +kernel
  · show (PyData.tuple (t.map tagD)).hasDict = false
    rw [PyData.hasDict]
    clear hl h
    induction t with
    | nil => rfl
    | cons a t ih =>
      rw [List.map_cons, PyData.hasDictAll, ih, Bool.or_false]
      cases a <;> rfl
theorem show_lots {G : List Tags} (hG : G.length ≤ 1000) (h : ∀ t ∈ G, t.length ≤ 4 ∧ ∀ a ∈ t, ∀ k, a = some k → k < 3) : ShowOk (lotsD G) := by
  refine ⟨?_, ?_, by have := depth_lots G; omega, ?_, _, rfl⟩
  · show (PyData.tuple (G.map tagsD)).showable = true
    rw [PyData.showable]
    clear hG
    induction G with
    | nil => rfl
    | cons a t ih =>
      rw [List.map_cons, PyData.showableAll, ih fun b hb => h b (List.mem_cons_of_mem _ hb), Bool.and_true]
      exact (show_tags (h a List.mem_cons_self).2 (h a List.mem_cons_self).1).2.1
  · show (PyData.tuple (G.map tagsD)).hasDict = false
    rw [PyData.hasDict]
    clear hG
    induction G with
    | nil => rfl
    | cons a t ih =>
      rw [List.map_cons, PyData.hasDictAll, ih fun b hb => h b (List.mem_cons_of_mem _ hb), Bool.or_false]
      exact (show_tags (h a List.mem_cons_self).2 (h a List.mem_cons_self).1).2.2
  · show (PyData.tuple (G.map tagsD)).shown.length ≤ sizeLine
    rw [PyData.shown, shownAll_map]
    have h1 := tupleText_le ((G.map tagsD).map PyData.shown)
    have h2 := piled_le (n := 28) (ts := (G.map tagsD).map PyData.shown) fun x hx => by
      obtain ⟨d, hd, rfl⟩ := List.mem_map.mp hx
      obtain ⟨a, ha, rfl⟩ := List.mem_map.mp hd
      exact (show_tags (h a ha).2 (h a ha).1).1
    rw [List.length_map, List.length_map] at h2
    exact Nat.le_trans (by omega) (sz_of (n := 100000) (Nat.le_refl _))
end BB
/-! L7: is_right. -/
namespace BB
open PySem L2 Evl LamX
theorem rprK {X : Cx} {K : PySem.W.Frag} {k : Nat} (hgd : X.A.guards = some []) (hr : Room k X.A) (h : X.K = K := by rfl) : CallR X (.builtin "repr") (rRepr K) := h ▸ cr_repr hgd hr
section
variable {K : PySem.W.Frag} {TL : List (Addr × Str)} {σ : L2.St} {H : Hp} {te : TE} {t u : TT} {d : PyData} {D : Ends} {tz tu : TS} {x y : Bool}
theorem rd_neS {a b : Str} : RD K rNe (.str a) (.str b) (.bool (!decide (a = b))) := fun H x y px py Q q => by
  cases dp_str px; cases dp_str py
  refine ⟨rfl, ?_⟩
  have : decide (V.str a = V.str b) = decide (a = b) := by
    rw [decide_eq_decide]
    exact ⟨fun h => by injection h, fun h => by rw [h]⟩
  rw [this]
  exact q _ H (Ex.refl _) (.bl _)
theorem rd_eqS {a b : Str} : RD K rEq (.str a) (.str b) (.bool (decide (a = b))) := fun H x y px py Q q => by
  cases dp_str px; cases dp_str py
  refine ⟨rfl, ?_⟩
  have : decide (V.str a = V.str b) = decide (a = b) := by
    rw [decide_eq_decide]
    exact ⟨fun h => by injection h, fun h => by rw [h]⟩
  rw [this]
  exact q _ H (Ex.refl _) (.bl _)
theorem rcd_repr (h : ShowOk d) : RCD K (rRepr K) [d] (.str d.shown) := fun H vs p Q q => by
  obtain ⟨v, rfl, pv⟩ := dpa1 p
  obtain ⟨xs, e⟩ := h.2.2.2.2
  obtain ⟨a, us, rfl, _⟩ := dp_tup (e ▸ pv)
  exact .inl ⟨a, d, rfl, pv, h, q _ H (Ex.refl _) (.str _)⟩
def EvTn (TL : List (Addr × Str)) (t : TT) (σ : L2.St) (H : Hp) (x : Bool) : Prop := ∀ H1, ExtN H H1 → Tabs TL H1 → ∀ Q : Bool → Hp → Prop, (∀ H2, ExtN H1 H2 → Tabs TL H2 → Q x H2) → t σ H1 Q
theorem etn_of (h : ∀ H1, ExtN H H1 → EvT t σ H1 x) : EvTn TL t σ H x := fun H1 e T Q q => h H1 e H1 (Ex.refl _) Q fun H2 e2 => q H2 (ExtN.of e2) (T.ext e2)
theorem etn_test (h : EDn K TL te σ H (.bool x)) : EvTn TL (tTest te) σ H x := fun H1 e T Q q => h H1 e T _ fun v H2 e2 T2 p => ⟨x, dp_bl p, q H2 e2 T2⟩
theorem etn_or (h1 : EvTn TL t σ H x) (h2 : x = false → EvTn TL u σ H y) : EvTn TL (tOr t u) σ H (x || y) := fun H1 e T Q q => h1 H1 e T _ fun H2 e2 T2 => by
  cases x with
  | true => exact q H2 e2 T2
  | false => exact h2 rfl H2 (ExtN.trans e e2) T2 _ fun H3 e3 T3 => q H3 (ExtN.trans e2 e3) T3
theorem EvTn.is (h : EvTn TL t σ H x) (e : x = y) : EvTn TL t σ H y := e ▸ h
theorem qn_asg {j : Nat} (T : Tabs TL H) (h : EDn K TL te σ H d) (k : ∀ v H1, ExtN H H1 → Tabs TL H1 → Dp K H1 v d → tz D (σ.set j (some v)) H1) : tSeq (tAsg te (gName j)) tz D σ H := h H (ExtN.refl _) T _ fun v H1 e T1 p => k v H1 e T1 p
theorem edn_cb1 {r : List V → Hp → VK → Prop} {c : PyData} (h : EDn K TL te σ H d) (hr : RCD K r [d] c) : EDn K TL (tCB r (tCons te tNil)) σ H c := fun H1 e T Q q =>
  h H1 e T _ fun v H2 e2 T2 p => hr H2 [v] (.cons p .nil) Q fun z H3 e3 pz => q z H3 (ExtN.trans e2 (ExtN.of e3)) (T2.ext e3) pz
theorem qn_skip (T : Tabs TL H) (h : EvTn TL t σ H false) (k : ∀ H1, ExtN H H1 → Tabs TL H1 → tz D σ H1) : tSeq (tIfS t tu tNext) tz D σ H := h H (ExtN.refl _) T _ fun H1 e T1 => k H1 e T1
end
section
variable {P : Program} {w : World} {K : PySem.W.Frag} {mg : Str → Option Value} {base : Heap}
theorem liesB_le {t u : Tags} (hl : t.length = u.length) : liesB t u = true ↔ Net.Le (tOf t) (tOf u) := by
  unfold liesB
  rw [List.all_eq_true]
  constructor
  · intro h i a hi
    have hi := tOf_some.mp hi
    have h1 := (List.getElem?_eq_some_iff.mp hi).1
    have h2 : u[i]? = some (u.getD i none) := getD_of (by omega)
    have h3 : (t.zip u)[i]? = some (some a, u.getD i none) := by
      rw [List.getElem?_zip_eq_some]
      exact ⟨hi, h2⟩
    have := h _ (List.mem_of_getElem? h3)
    have e : some a = u.getD i none := by simpa using this
    exact e.symm
  · intro h p hp
    obtain ⟨i, hi⟩ := List.getElem?_of_mem hp
    rw [List.getElem?_zip_eq_some] at hi
    cases q : p.1 with
    | none => rfl
    | some a =>
      have h1 := h i a (tOf_some.mpr (by rw [hi.1, q]))
      have h2 : tOf u i = p.2 := by
        show u.getD i none = p.2
        rw [List.getD_eq_getElem?_getD, hi.2]; rfl
      rw [h2] at h1
      rw [h1]; simp
def P_right : List (List Int) → List PyData → PyData → Prop := fun B ds res => ∃ R : List (List (List Int)), ds = [dataD R, lotsD (dueL B R)] ∧ DataG B R ∧ res = .bool true
theorem sc__law_is_right : FnScope ["_law_book", "_law_data_here", "_law_due", "_law_found", "_law_one_here", "_law_two", "_law_i", "_law_tag"] ["_law_book", "_law_data_here", "_law_due"] (defScope st__law_is_right) := ⟨rfl, rfl, rfl, by decide +kernel, rfl, by decide +kernel, by decide +kernel⟩
theorem ok__law_is_right (T : Txt K mg) (Y : TabT K mg base T) : FnG P w K mg base 11 T.d__law_is_right.f T.d__law_is_right.fd ["_law_book", "_law_data_here", "_law_due"] (BSp K Y.TL P_right) := by
  obtain ⟨oc, od, kV, doc, pm, an, cdv, ct, osl, e1, lk, hcd⟩ := T.d__law_is_right.F.ex
  refine FnG.of (x := "_law_is_right") (qual := "_law_is_right") sc__law_is_right cdv ⟨oc, od, kV, doc, pm, an, ct, osl, e1, lk, hcd⟩ ?len (fun A outer s H vs Q E hgd hr h => ?_)
  case len =>
    rintro vs H Q E ⟨v0, rest, B, ds, d, rfl, _, h, _, ⟨R, rfl, _⟩, _⟩
    exact congrArg Nat.succ h.length
  obtain ⟨v0, rest, B, ds, res, rfl, hB, hA, hT, ⟨R, rfl, hD, rfl⟩, k⟩ := h
  obtain ⟨v1, v2, rfl, p1, p2⟩ := dpa2 hA
  refine ⟨_, (pss_cons (ps_set (i := 3) sc__law_is_right.nd rfl (by first | exact Or.inl rfl | exact Or.inr rfl) (pe_call (ok_whole (P := P) (w := w) T Y) (hr.mono (by decide)) (by rfl) T.d_whole.g T.d_whole.F.kp T.d_whole.b .nil pass0 (pa_cons (pv 0) (pa_cons (pv 1) pa_nil))))
      (pss_cons (ps_if (PW.pt (pw_or (pt_cmpR op_ne (pe_callB (rprK hgd hr) (by rfl) T.b_repr (by decide +kernel) (pa_cons (pv 3) pa_nil)) (pe_callB (rprK hgd hr) (by rfl) T.b_repr (by decide +kernel) (pa_cons (pv 2) pa_nil)) (nomark _)) (pw_or1 (pt_cmpR op_notBl (pe_call (ok_is_whole (P := P) (w := w) T Y) (hr.mono (by decide)) (by rfl) T.d_is_whole.g T.d_is_whole.F.kp T.d_is_whole.b .nil pass0 (pa_cons (pv 0) (pa_cons (pv 1) (pa_cons (pv 2) pa_nil)))) pe_bl (nomark _)))))
      (pss_one (ps_ret pe_bl))
      pss_nil)
      (pss_cons (ps_for PassesOwn.never rfl (piTK (K := K) (pv 2)) (pg_name (i := 4) sc__law_is_right.nd rfl (by first | exact Or.inl rfl | exact Or.inr rfl))
      (pss_cons (ps_if (pt_cmpR op_notBl (pe_call (ok_is_lot (P := P) (w := w) T) (hr.mono (by decide)) (by rfl) T.d_is_lot.g T.d_is_lot.F.kp T.d_is_lot.b .nil pass0 (pa_cons (pv 0) (pa_cons (pv 1) (pa_cons (pv 4) pa_nil)))) pe_bl (nomark _))
        (pss_one (ps_ret pe_bl))
        pss_nil)
        (pss_cons (ps_if (pt_cmpR op_notBl (pe_call (ok_lies_in (P := P) (w := w) T) (hr.mono (by decide)) (by rfl) T.d_lies_in.g T.d_lies_in.F.kp T.d_lies_in.b .nil pass0 (pa_cons (pv 4) (pa_cons (pv 4) pa_nil))) pe_bl (nomark _))
        (pss_one (ps_ret pe_bl))
        pss_nil)
        (pss_one (ps_if (pt_cmpR (neEK (K := K) hr) (pe_lc (own := [("_law_two", 5)]) rfl sc__law_is_right.nd (piTK (K := K) (pv 2)) (blkOk_by (own := [("_law_two", 5)]) (N := ["_law_book", "_law_data_here", "_law_due", "_law_found", "_law_one_here", "_law_two", "_law_i", "_law_tag"]) (sc := defScope st__law_is_right) (by decide +kernel)) (fun _ _ _ _ _ => (pg_name (i := 5) sc__law_is_right.nd rfl (by first | exact Or.inl rfl | exact Or.inr rfl))) (fun _ _ _ _ _ => pts_one (PW.pt (pw_and (pt_cmpR (neDK (K := K) hr) (pv 5) (pv 4) (nomark _)) (pw_and1 (pt_cmpR op_notBl (pe_call (ok_lies_in (P := P) (w := w) T) (hr.mono (by decide)) (by rfl) T.d_lies_in.g T.d_lies_in.F.kp T.d_lies_in.b .nil pass0 (pa_cons (pv 4) (pa_cons (pv 5) pa_nil))) pe_bl (nomark _)))))) (fun _ _ _ _ _ => (pv 5))) (pe_lst pa_nil) (nomark _))
        (pss_one (ps_ret pe_bl))
        pss_nil)))))
      (pss_cons (ps_for PassesOwn.never rfl (pi_range1 (by rfl) T.b_range (pa_cons (pe_callB (lenK (K := K)) (by rfl) T.b_len (by decide +kernel) (pa_cons (pv 0) pa_nil)) pa_nil)) (pg_name (i := 6) sc__law_is_right.nd rfl (by first | exact Or.inl rfl | exact Or.inr rfl))
      (pss_one (ps_if (pt_cmpR (neEK (K := K) hr) (pe_lc (own := [("_law_tag", 7)]) rfl sc__law_is_right.nd (pi_range1 (by rfl) T.b_range (pa_cons (pe_callB (lenK (K := K)) (by rfl) T.b_len (by decide +kernel) (pa_cons (pe_ix (ixTK (K := K)) (pv 1) (pv 6) (fun _ _ => rfl)) pa_nil)) pa_nil)) (blkOk_by (own := [("_law_tag", 7)]) (N := ["_law_book", "_law_data_here", "_law_due", "_law_found", "_law_one_here", "_law_two", "_law_i", "_law_tag"]) (sc := defScope st__law_is_right) (by decide +kernel)) (fun _ _ _ _ _ => (pg_name (i := 7) sc__law_is_right.nd rfl (by first | exact Or.inl rfl | exact Or.inr rfl))) (fun _ _ _ _ _ => pts_one (pt_cmpR (eqEK (K := K) hr) (pe_lc (own := [("_law_one_here", 4)]) rfl sc__law_is_right.nd (piTK (K := K) (pv 2)) (blkOk_by (own := [("_law_one_here", 4)]) (N := ["_law_book", "_law_data_here", "_law_due", "_law_found", "_law_one_here", "_law_two", "_law_i", "_law_tag"]) (sc := (relabel _ _)) (by rfl)) (fun _ _ _ _ _ => (pg_name (i := 4) sc__law_is_right.nd rfl (by first | exact Or.inl rfl | exact Or.inr rfl))) (fun _ _ _ _ _ => pts_one (pt_cmpR op_eq (pe_ix (ixTK (K := K)) (pv 4) (pv 6) (fun _ _ => rfl)) (pv 7) (nomark _))) (fun _ _ _ _ _ => (pv 4))) (pe_lst pa_nil) (nomark _))) (fun _ _ _ _ _ => (pv 7))) (pe_lst pa_nil) (nomark _))
        (pss_one (ps_ret pe_bl))
        pss_nil)))
      (pss_one (ps_ret (pe_cmpR op_eq (pe_callB (rprK hgd hr) (by rfl) T.b_repr (by decide +kernel) (pa_cons (pe_call (ok_whole (P := P) (w := w) T Y) (hr.mono (by decide)) (by rfl) T.d_whole.g T.d_whole.F.kp T.d_whole.b .nil pass0 (pa_cons (pv 0) (pa_cons (pv 1) pa_nil))) pa_nil)) (pe_callB (rprK hgd hr) (by rfl) T.b_repr (by decide +kernel) (pa_cons (pv 2) pa_nil)) (nomark _)))))))), ?_⟩
  have hG := dueL_due hD
  have hsm := hD.small
  generalize dueL B R = G at hG p2
  refine qn_asg (K := K) hT (edn_call (fun H2 e2 => eb_var rfl (hB.kn e2)) (fun H2 e2 => eds_cons (ed_var rfl (dp_kn p1 e2)) eds_nil) ⟨R, G, rfl, hD, hG, rfl⟩) fun vf H1 e1 T1 pf => ?_
  have hB1 := hB.kn e1
  have p11 := dp_kn p1 e1
  have p21 := dp_kn p2 e1
  have hGt : ∀ t ∈ G, t.length = B.length ∧ InR R t := fun t ht => by
    obtain ⟨h1, h2⟩ := (hG.lots.2 t).mp ht
    exact ⟨h1, ((isLt_iff h1).mp h2.lot).1⟩
  have hGl : G.length ≤ 1000 := by
    have := lots_few hD hG.lots.1 fun t ht => (hG.lots.2 t).mp ht
    omega
  have hshow : ShowOk (lotsD G) := show_lots hGl fun t ht => by
    obtain ⟨h1, h2⟩ := hGt t ht
    refine ⟨by omega, fun a ha k e => ?_⟩
    obtain ⟨i, hi⟩ := List.getElem?_of_mem ha
    subst e
    have h3 := h2 i k hi
    have h4 : i < R.length := by rw [hD.len, ← h1]; exact (List.getElem?_eq_some_iff.mp hi).1
    have := hD.few _ (List.mem_of_getElem? (getD_of (d := []) h4))
    omega
  refine qn_skip (TL := Y.TL) T1 ((etn_or (x := false) (y := false) (etn_of fun H2 e2 => ET.is (et_test (ed_op (ed_cb (eds_cons (ed_var rfl (dp_kn pf e2)) eds_nil) (rcd_repr hshow)) (ed_cb (eds_cons (ed_var rfl (dp_kn p21 e2)) eds_nil) (rcd_repr hshow)) rd_neS)) (by simp)) fun _ =>
    etn_test ((edn_op (edn_call (fun H2 e2 => eb_var rfl (hB1.kn e2)) (fun H2 e2 => eds_cons (ed_var rfl (dp_kn p11 e2)) (eds_cons (ed_var rfl (dp_kn p21 e2)) eds_nil)) ⟨lotsD G, .inl ⟨R, G, rfl, hD, hG, .inr (.inr ⟨G, rfl, hGl, hGt⟩), rfl⟩⟩) (fun H2 e2 => ed_bl) rd_notB).is (by rw [eqv_lots]; simp)))) fun H2 e2 T2 => ?_
  have hB2 := hB1.kn e2
  have p12 := dp_kn p11 e2
  have p22 := dp_kn p21 e2
  refine q_forD (K := K) (GG := Ex) (ei_tup (ed_var rfl p22)) (fun H3 i σ' H' => Ex H2 H' ∧ Ex H3 H' ∧ ∃ (o4 o5 : Option V), σ' = [some v0, some v1, some v2, some vf, o4, o5, none, none]) (fun H3 e3 => ⟨e3, Ex.refl _, none, none, rfl⟩) (fun _ _ _ _ _ h => h.2.1) ?_ ?_
  · rintro H3 i d x σ' H4 H5 e3 hd ⟨e24, e34, o4, o5, rfl⟩ e45 px
    obtain ⟨t, ht, rfl⟩ := map_get hd
    have htG := List.mem_of_getElem? ht
    obtain ⟨htl, hti⟩ := hGt t htG
    have e25 := e24.trans e45
    have hmx := ((hG.lots.2 t).mp htG).2
    show tSeq _ _ _ [some v0, some v1, some v2, some vf, some x, o5, none, none] H5
    refine q_whenD (x := false) (ET.is (et_test (ed_op (ed_callN (eb_var rfl (hB2.ex e25)) (eds_cons (ed_var rfl (p12.ex e25)) (eds_cons (ed_var rfl px) eds_nil)) ⟨R, t, rfl, hD, ⟨htl, hti⟩, rfl⟩) ed_bl rd_notB)) ?_) (fun h => nomatch h) fun _ H6 e6 => ?_
    · rw [hG.some htG, isLotB_iff.mpr ((isLt_iff htl).mp hmx.lot).2]; rfl
    refine q_whenD (x := false) (ET.is (et_test (ed_op (ed_call (eds_cons (ed_var rfl (px.ex e6)) (eds_cons (ed_var rfl (px.ex e6)) eds_nil)) ⟨t, t, rfl, rfl, by omega, rfl⟩) ed_bl rd_notB)) ?_) (fun h => nomatch h) fun _ H7 e7 => ?_
    · rw [(liesB_le rfl).mpr fun i a h => h]; rfl
    have e57 := e6.trans e7
    refine s_ifD (x := false) (ET.is (et_test (ed_op (ed_lc (xs := G) (enc := tagsD) (f := fun u => !decide (u = t) && !decide (liesB t u = false)) (w := tagsD) (fun H8 e8 => ei_tup (ed_var rfl (((p22.ex e25).ex e57).ex e8))) (by omega) (fun u _ _ => stay_tupled _ (tupled_tags u)) (fun _ => rfl)
      (fun u y H8 hu e8 py => et_and' (ET.is (et_test (ed_op (ed_var rfl py) (ed_var rfl ((px.ex e57).ex e8)) (rd_neD (shaped_tags u) (shaped_tags t)))) (by rw [eqv_tags])) fun _ => et_test (ed_op (ed_call (eds_cons (ed_var rfl ((px.ex e57).ex e8)) (eds_cons (ed_var rfl py) eds_nil)) ⟨t, u, rfl, by rw [htl, (hGt u hu).1], by omega, rfl⟩) ed_bl rd_notB)) (fun u y H8 _ e8 py _ => ed_var rfl py))
      (ed_lst (ds := []) eds_nil (by show 0 ≤ 100000; decide)) rd_neE)) ?_) (fun h => nomatch h) fun _ H8 e8 => ⟨(e25.trans e57).trans e8, ((e34.trans e45).trans e57).trans e8, _, _, rfl⟩
    have : (G.filter fun u => !decide (u = t) && !decide (liesB t u = false)) = [] := by
      rw [List.filter_eq_nil_iff]
      intro u hu hq
      obtain ⟨hul, hum⟩ := (hG.lots.2 u).mp hu
      rw [Bool.and_eq_true] at hq
      have h1 : liesB t u = true := by
        cases q : liesB t u with
        | true => rfl
        | false => rw [q] at hq; simp at hq
      have := tOf_inj (hul.trans htl.symm) (hmx.max _ hum.lot ((liesB_le (by rw [htl, hul])).mp h1))
      rw [this, decide_eq_true rfl] at hq
      cases hq.1
    rw [this]; rfl
  rintro H3 σ' H4 e3 ⟨e24, e34, o4, o5, rfl⟩
  have hB4 := hB2.ex e24
  have p14 := p12.ex e24
  have p24 := p22.ex e24
  refine q_forD (K := K) (GG := Ex) (ei_rng (n := B.length) (eds_cons (ed_lenT (ed_var rfl hB4.dp)) eds_nil) (by omega)) (fun H5 i σ' H' => Ex H4 H' ∧ Ex H5 H' ∧ ∃ (o6 : Option V), σ' = [some v0, some v1, some v2, some vf, o4, o5, o6, none]) (fun H5 e5 => ⟨e5, Ex.refl _, none, rfl⟩) (fun _ _ _ _ _ h => h.2.1) ?_ ?_
  · rintro H5 m d x σ' H6 H7 e5 hd ⟨e46, e56, o6, rfl⟩ e67 px
    obtain ⟨i, hi, rfl⟩ := map_get hd
    have hiB : i < B.length := List.mem_range.mp (List.mem_of_getElem? hi)
    have hiR : i < R.length := by rw [hD.len]; exact hiB
    have e47 := e46.trans e67
    have hrl : (R.getD i []).length ≤ 3 := hD.few _ (List.mem_of_getElem? (getD_of (d := []) hiR))
    show tIfS _ _ _ _ [some v0, some v1, some v2, some vf, o4, o5, some x, none] H7
    refine s_ifD (x := false) (ET.is (et_test (ed_op (ed_lc (xs := List.range (R.getD i []).length) (enc := nD) (f := fun (g : Nat) => (G.filter fun t => decide (t.getD i none = some g)).isEmpty) (w := nD) (fun H8 e8 => ei_rng (n := (R.getD i []).length) (eds_cons (ed_lenT (ed_op (ed_var rfl ((p14.ex e47).ex e8)) (ed_var rfl (px.ex e8)) (rd_ixT (dget hiR)))) eds_nil) (by omega)) (by rw [List.length_range]; omega) (fun _ _ _ => rfl) (fun _ => rfl)
      (fun g y H8 hg e8 py => ET.is (et_test (ed_op (ed_lc (xs := G) (enc := tagsD) (f := fun t => decide (t.getD i none = some g)) (w := tagsD) (fun H9 e9 => ei_tup (ed_var rfl (((p24.ex e47).ex e8).ex e9))) (by omega) (fun u _ _ => stay_tupled _ (tupled_tags u)) (fun _ => rfl)
        (fun t z H9 ht e9 pz => et_test (ed_op (b := tagD (some g)) (ed_op (ed_var rfl pz) (ed_var rfl ((px.ex e8).ex e9)) (rd_ixT (tags_get (by rw [(hGt t ht).1]; exact hiB)))) (ed_var rfl (py.ex e9)) rd_eqTag)) (fun t z H9 _ e9 pz _ => ed_var rfl pz))
        (ed_lst (ds := []) eds_nil (by show 0 ≤ 100000; decide)) rd_eqE)) ?_) (fun g y H8 _ e8 py _ => ed_var rfl py))
      (ed_lst (ds := []) eds_nil (by show 0 ≤ 100000; decide)) rd_neE)) ?_) (fun h => nomatch h) fun _ H8 e8 => ⟨e47.trans e8, (e56.trans e67).trans e8, _, rfl⟩
    · generalize G.filter _ = l
      cases l <;> rfl
    · have : ((List.range (R.getD i []).length).filter fun (g : Nat) => (G.filter fun t => decide (t.getD i none = some g)).isEmpty) = [] := by
        rw [List.filter_eq_nil_iff]
        intro g hg hq
        obtain ⟨t, ht, hti⟩ := due_row hG hiB (List.mem_range.mp hg)
        rw [List.isEmpty_iff, List.filter_eq_nil_iff] at hq
        refine hq t ht (decide_eq_true ?_)
        rw [List.getD_eq_getElem?_getD, hti]; rfl
      rw [this]; rfl
  · rintro H5 σ' H6 e5 ⟨e46, e56, o6, rfl⟩
    have hB6 := hB4.ex e46
    refine sn_ret (K := K) ((T2.ext e24).ext e46) ((edn_op (edn_cb1 (edn_call (fun H7 e7 => eb_var rfl (hB6.kn e7)) (fun H7 e7 => eds_cons (ed_var rfl (dp_kn (p14.ex e46) e7)) eds_nil) ⟨R, G, rfl, hD, hG, rfl⟩) (rcd_repr hshow)) (fun H7 e7 => ed_cb (eds_cons (ed_var rfl (dp_kn (p24.ex e46) e7)) eds_nil) (rcd_repr hshow)) rd_eqS).is (d' := .bool true) (by rw [decide_eq_true rfl])) fun v H7 e7 T7 p7 => ?_
    exact k v H7 (ExtN.trans (ExtN.trans e1 e2) (ExtN.trans (ExtN.of (e24.trans e46)) e7)) T7 p7
end
end BB
/-! L8: the jar. -/
namespace BB
open PySem L2 Evl LamX
def JarAt (H : Hp) (j : Addr) : Prop := ∃ a b : Int, H j = some (.lst [.int a, .int b]) ∧ 0 ≤ b ∧ b < 2147483648
/-- all but the jar is kept -/
def Jx (j : Addr) (H H' : Hp) : Prop := ∀ a o, a ≠ j → H a = some o → H' a = some o
theorem Jx.trans {j : Addr} {H H1 H2 : Hp} (a : Jx j H H1) (b : Jx j H1 H2) : Jx j H H2 := fun x o h e => b x o h (a x o h e)
theorem Jx.of {j : Addr} {H H1 : Hp} (e : Ex H H1) : Jx j H H1 := fun x o _ h => e x o h
theorem Jx.upd {j : Addr} {H : Hp} {o : HO} : Jx j H (upd H j o) := fun x u h e => by rw [upd_ne h]; exact e
/-- a drawing def: the jar, ints behind it; what it draws -/
def TakeSp : Sp := fun vs H Q _ => ∃ (j : Addr) (top : Nat), vs = [.ref j, .int (top : Int)] ∧ JarAt H j ∧ 1 ≤ top ∧ top ≤ 1000 ∧ ∀ (d : Nat) H', d < top → Jx j H H' → JarAt H' j → Q (.int (d : Int)) H'
theorem jar0 {K : PySem.W.Frag} {σ : L2.St} {H : Hp} {j : Addr} {a b : Int} {Q : VK} (hs : σ[0]? = some (some (.ref j))) (h : H j = some (.lst [.int a, .int b])) (q : Q (.int a) H) : tOp (rIxL K) (tVar 0) (tC (.int 0)) σ H Q := ⟨_, hs, j, [.int a, .int b], 0, .int a, rfl, rfl, sq_of h, rfl, q⟩
theorem jar1 {K : PySem.W.Frag} {σ : L2.St} {H : Hp} {j : Addr} {a b : Int} {Q : VK} (hs : σ[0]? = some (some (.ref j))) (h : H j = some (.lst [.int a, .int b])) (q : Q (.int b) H) : tOp (rIxL K) (tVar 0) (tC (.int 1)) σ H Q := ⟨_, hs, j, [.int a, .int b], 1, .int b, rfl, rfl, sq_of h, rfl, q⟩
section
variable {P : Program} {w : World} {K : PySem.W.Frag} {mg : Str → Option Value} {base : Heap}
theorem sc__law_take : FnScope ["_law_jar", "_law_top", "_law_drawn"] ["_law_jar", "_law_top"] (defScope st__law_take) := ⟨rfl, rfl, rfl, by decide +kernel, rfl, by decide +kernel, by decide +kernel⟩
theorem ok__law_take (T : Txt K mg) : FnOk P w K mg base CX0 1 T.d__law_take.f T.d__law_take.fd ["_law_jar", "_law_top"] TakeSp := by
  refine T.d__law_take.F.ok sc__law_take ?len (fun cdv A outer s H vs Q E hr h => ?_)
  case len =>
    rintro vs H Q E ⟨j, top, rfl, _⟩
    rfl
  obtain ⟨j, top, rfl, ⟨a, b, hj, hb1, hb2⟩, ht1, ht2, k⟩ := h
  refine ⟨_, (pss_cons (ps_if (pt_cmpR op_gt (pe_ix (ixLK (K := K)) (pv 0) pe_int (fun _ _ => rfl)) pe_int (nomark _))
      (pss_cons (ps_set (i := 2) sc__law_take.nd rfl (by first | exact Or.inl rfl | exact Or.inr rfl) (pe_op op_mod (pe_callTy call_int1 (by rfl) T.b_int (by decide +kernel) (pa_cons (pe_ix (ixLK (K := K)) (pv 0) pe_int (fun _ _ => rfl)) pa_nil)) (pv 1)))
        (pss_cons (ps_asg (pe_op op_fdiv (pe_ix (ixLK (K := K)) (pv 0) pe_int (fun _ _ => rfl)) (pv 1)) (pg_sub (pv 0) pe_int set_list))
        (pss_one (ps_ret (pv 2)))))
      pss_nil)
      (pss_cons (ps_asg (pe_op op_mod (pe_callTy call_int1 (by rfl) T.b_int (by decide +kernel) (pa_cons (pe_op op_add (pe_op op_mul (pe_ix (ixLK (K := K)) (pv 0) pe_int (fun _ _ => rfl)) pe_int) pe_int) pa_nil)) pe_int) (pg_sub (pv 0) pe_int set_list))
      (pss_one (ps_ret (pe_op op_mod (pe_callTy call_int1 (by rfl) T.b_int (by decide +kernel) (pa_cons (pe_op op_fdiv (pe_op op_mod (pe_callTy call_int1 (by rfl) T.b_int (by decide +kernel) (pa_cons (pe_op op_mul (pe_ix (ixLK (K := K)) (pv 0) pe_int (fun _ _ => rfl)) (pe_ix (ixLK (K := K)) (pv 0) pe_int (fun _ _ => rfl))) pa_nil)) pe_int) pe_int) pa_nil)) (pv 1)))))), ?_⟩
  have hpos : (0 : Int) < (top : Int) := by omega
  refine q_whenD (x := decide (0 < a)) (fun H1 e1 Q q => jar0 rfl (e1 _ _ hj) ⟨a, 0, rfl, rfl, ⟨_, rfl, q H1 (Ex.refl _)⟩⟩) (fun hx H1 e1 => ?_) (fun hx H1 e1 => ?_)
  · have hj1 := e1 _ _ hj
    refine jar0 (σ := [some (.ref j), some (.int (top : Int)), none]) rfl hj1 (.inl ⟨a, rfl, ⟨_, rfl, a, top, rfl, rfl, hpos, ?_⟩⟩)
    refine jar0 (σ := [some (.ref j), some (.int (top : Int)), some (.int (a % top))]) rfl hj1 ⟨_, rfl, a, top, rfl, rfl, ⟨hpos, by omega⟩, ?_⟩
    refine ⟨_, rfl, j, _, 0, 0, rfl, rfl, hj1, rfl, ?_⟩
    refine ⟨_, rfl, ?_⟩
    have h1 := Int.emod_nonneg a (show (top : Int) ≠ 0 by omega)
    have h2 := Int.emod_lt_of_pos a hpos
    have e : a % (top : Int) = ((a % (top : Int)).toNat : Int) := (Int.toNat_of_nonneg h1).symm
    show Q (.int (a % (top : Int))) _
    rw [e]
    exact k _ _ (by omega) ((Jx.of e1).trans Jx.upd) ⟨_, _, upd_same, hb1, hb2⟩
  · have hj1 := e1 _ _ hj
    have hm : ∀ x : Int, 0 ≤ x % 2147483647 ∧ x % 2147483647 < 2147483647 := fun x => ⟨Int.emod_nonneg x (by decide), Int.emod_lt_of_pos x (by decide)⟩
    refine jar1 (σ := [some (.ref j), some (.int (top : Int)), none]) rfl hj1 ⟨b, 39373, rfl, rfl, .inr ⟨by decide, by decide⟩, ?_⟩
    refine ⟨_, 7, rfl, rfl, .inl ⟨_, rfl, ⟨_, 2147483647, rfl, rfl, (by show (0 : Int) < 2147483647; decide), ?_⟩⟩⟩
    refine ⟨_, rfl, j, _, 1, 1, rfl, rfl, hj1, rfl, ?_⟩
    obtain ⟨c1, c2⟩ := hm (b * 39373 + 7)
    have hj2 : upd H1 j (.lst ([V.int a, V.int b].set 1 (.int ((b * 39373 + 7) % 2147483647)))) j = some (.lst [.int a, .int ((b * 39373 + 7) % 2147483647)]) := upd_same
    refine jar1 (σ := [some (.ref j), some (.int (top : Int)), none]) rfl hj2 ?_
    refine jar1 (σ := [some (.ref j), some (.int (top : Int)), none]) rfl hj2 ⟨_, _, rfl, rfl, .inl ⟨by omega, by omega⟩, ?_⟩
    refine .inl ⟨_, rfl, ⟨_, 2147483629, rfl, rfl, (by show (0 : Int) < 2147483629; decide), ⟨_, 32, rfl, rfl, ⟨by decide, by decide⟩, .inl ⟨_, rfl, ⟨_, rfl, _, _, rfl, rfl, hpos, ?_⟩⟩⟩⟩⟩
    generalize ((b * 39373 + 7) % 2147483647) * ((b * 39373 + 7) % 2147483647) % 2147483629 / 32 = z
    have h1 := Int.emod_nonneg z (show (top : Int) ≠ 0 by omega)
    have h2 := Int.emod_lt_of_pos z hpos
    have e : z % (top : Int) = ((z % (top : Int)).toNat : Int) := (Int.toNat_of_nonneg h1).symm
    show Q (.int (z % (top : Int))) _
    rw [e]
    exact k _ _ (by omega) ((Jx.of e1).trans Jx.upd) ⟨a, _, hj2, c1, by omega⟩
end
end BB
/-! L9: one drawn, mixed. -/
namespace BB
open PySem L2 Evl LamX
def OneSp (K : PySem.W.Frag) : Sp := fun vs H Q _ => ∃ (j p : Addr) (xs : List V), vs = [.ref j, .ref p] ∧ JarAt H j ∧ (SqL K H p xs ∨ SqT K H p xs) ∧ p ≠ j ∧ 1 ≤ xs.length ∧ xs.length ≤ 1000 ∧ ∀ (d : Nat) x H', xs[d]? = some x → Jx j H H' → JarAt H' j → Q x H'
theorem sqj {K : PySem.W.Frag} {H H' : Hp} {j p : Addr} {xs : List V} (jx : Jx j H H') (hne : p ≠ j) (h : SqL K H p xs ∨ SqT K H p xs) : SqL K H' p xs ∨ SqT K H' p xs := by
  have rd : ∀ u, Rd H p u → Rd H' p u := fun u h => h.elim (fun h => .inl (jx p _ hne h)) fun ⟨o, h⟩ => .inr ⟨o, jx p _ hne h⟩
  exact h.imp (fun h => h.imp (rd _) id) fun h => h.imp (rd _) id
section
variable {P : Program} {w : World} {K : PySem.W.Frag} {mg : Str → Option Value} {base : Heap}
theorem sc__law_one : FnScope ["_law_jar", "_law_things"] ["_law_jar", "_law_things"] (defScope st__law_one) := ⟨rfl, rfl, rfl, by decide +kernel, rfl, by decide +kernel, by decide +kernel⟩
theorem ok__law_one (T : Txt K mg) : FnOk P w K mg base CX0 2 T.d__law_one.f T.d__law_one.fd ["_law_jar", "_law_things"] (OneSp K) := by
  refine T.d__law_one.F.ok sc__law_one ?len (fun cdv A outer s H vs Q E hr h => ?_)
  case len =>
    rintro vs H Q E ⟨j, p, xs, rfl, _⟩
    rfl
  obtain ⟨j, p, xs, rfl, hj, hx, hne, h1, h2, k⟩ := h
  refine ⟨_, (pss_one (ps_ret (pe_ix (ixSK (K := K)) (pv 1) (pe_call (ok__law_take (P := P) (w := w) T) (hr.mono (by decide)) (by rfl) T.d__law_take.g T.d__law_take.F.kp T.d__law_take.b .nil pass0 (pa_cons (pv 0) (pa_cons (pe_callB (lenK (K := K)) (by rfl) T.b_len (by decide +kernel) (pa_cons (pv 1) pa_nil)) pa_nil))) (fun _ _ => rfl)))), ?_⟩
  refine ⟨_, rfl, ⟨_, rfl, ⟨_, rfl, p, xs, rfl, hx, ?_⟩⟩⟩
  refine ⟨j, xs.length, rfl, hj, h1, h2, fun d H' hd jx ja => ?_⟩
  have hg : xs[d]? = some xs[d] := List.getElem?_eq_getElem hd
  rcases sqj jx hne hx with h | h
  · exact .inl ⟨p, xs, d, xs[d], rfl, rfl, h, atI_nat hg, k d _ H' hg jx ja⟩
  · exact .inr (.inl ⟨p, xs, d, xs[d], rfl, rfl, h, atI_nat hg, k d _ H' hg jx ja⟩)
end
end BB
/-! J1: what is kept while a jar is drawn from; walks over a list or a tuple; comprehensions of values. -/
namespace L2
open PySem PySem.Spec PyProof.Rows
section
variable {X : Cx} {tg : Expr}
/-- what is walked is a list, or a tuple -/
def iSeqU (K : PySem.W.Frag) (tl : TE) : TI := fun σ H R => tl σ H fun x H1 => ∃ a, x = .ref a ∧ (((∃ xs, SqL K H1 a xs) ∧ R (Itl K a) H1) ∨ ((∃ xs, SqT K H1 a xs) ∧ R (Itt K a) H1))
theorem pi_seqU {l : Expr} {tl : TE} (hl : PE X l tl) : PI X tg l (iSeqU X.K tl) := by
  refine ⟨fun pins s σ H R I h => ?_⟩
  refine thn (hl.run pins s σ H _ I h) fun v s1 ⟨x, H1, I1, r1, q1⟩ => ?_
  obtain ⟨a, e, q1⟩ := q1
  subst e
  cases r1
  rcases q1 with ⟨⟨xs, hq⟩, q⟩ | ⟨⟨xs, hq⟩, q⟩
  · obtain ⟨its, rv, p, hz⟩ := I1.list hq
    refine wpAny_pyIter_list p.isList ?_
    refine ⟨s1.heap.objs.size, [s1.heap.objs.size], _, _, H1, rfl, I1.kept (t' := s1.toks) fun b o e => Heap.get?_push_of_some _ e, turn_list a _, ⟨_, Heap.get?_push_size _ rfl, rfl, rfl⟩, fun b hb => ?_, q⟩
    have e : b = s1.heap.objs.size := by simpa using hb
    subst e
    exact I1.fpOk (Nat.le_refl _) (I1.hok.fresh (Nat.le_refl _))
  · obtain ⟨its, rv, p, hz⟩ := I1.tuple hq
    refine wpAny_pyIter_tuple (show s1.heap.IsTuple a its.toArray from p) ?_
    refine ⟨s1.heap.objs.size, [s1.heap.objs.size], _, _, H1, rfl, I1.kept (t' := s1.toks) fun b o e => Heap.get?_push_of_some _ e, turn_tuple a _, ⟨_, Heap.get?_push_size _ rfl, rfl, rfl⟩, fun b hb => ?_, q⟩
    have e : b = s1.heap.objs.size := by simpa using hb
    subst e
    exact I1.fpOk (Nat.le_refl _) (I1.hok.fresh (Nat.le_refl _))
end
end L2
namespace BB
open PySem L2 Evl LamX
theorem piUK {X : Cx} {K : PySem.W.Frag} {tg l : Expr} {tl : TE} (hl : PE X l tl) (h : X.K = K := by rfl) : PI X tg l (iSeqU K tl) := h ▸ pi_seqU hl
/-! ### what is kept -/
/-- tuples, written ones too, are kept -/
def FK (H H' : Hp) : Prop := TK H H' ∧ ∀ a o (xs : List V), H a = some (.frz o (.tup xs)) → H' a = some (.frz o (.tup xs))
theorem FK.of_ex {H H' : Hp} (e : Ex H H') : FK H H' := ⟨TK.of_ex e, fun a o xs h => e a _ h⟩
theorem FK.refl (H : Hp) : FK H H := FK.of_ex (Ex.refl H)
theorem FK.trans {H H1 H2 : Hp} (a : FK H H1) (b : FK H1 H2) : FK H H2 := ⟨a.1.trans b.1, fun p o xs h => b.2 p o xs (a.2 p o xs h)⟩
theorem FK.upd_lst {H : Hp} {l : Addr} {xs : List V} {o : HO} (h : H l = some (.lst xs)) : FK H (upd H l o) := ⟨TK.upd_lst h, fun a u ys e => by
  have ne : a ≠ l := by rintro rfl; rw [h] at e; cases e
  rw [upd_ne ne]; exact e⟩
theorem FK.new {H : Hp} {l : Addr} {o : HO} (h : H l = none) : FK H (upd H l o) := FK.of_ex (Ex.new h)
theorem JarAt.ex {H H' : Hp} {j : Addr} (h : JarAt H j) (e : Ex H H') : JarAt H' j := let ⟨a, b, h, h1, h2⟩ := h; ⟨a, b, e _ _ h, h1, h2⟩
theorem JarAt.ne {H : Hp} {j l : Addr} (h : JarAt H j) (hn : H l = none) : l ≠ j := by
  rintro rfl
  obtain ⟨a, b, h, _⟩ := h
  rw [hn] at h; cases h
theorem JarAt.updn {H : Hp} {j l : Addr} {o : HO} (h : JarAt H j) (hn : l ≠ j) : JarAt (L2.upd H l o) j := by
  obtain ⟨a, b, h, h1⟩ := h
  exact ⟨a, b, by rw [upd_ne (Ne.symm hn)]; exact h, h1⟩
theorem Jx.refl (j : Addr) (H : Hp) : Jx j H H := Jx.of (Ex.refl H)
theorem Jx.fk {j : Addr} {H H' : Hp} (jx : Jx j H H') (hj : JarAt H j) : FK H H' := by
  obtain ⟨a, b, hj, _⟩ := hj
  have ne : ∀ (p : Addr) (o : HO), H p = some o → (∀ xs, o ≠ .lst xs) → p ≠ j := fun p o h n z => by rw [z, hj] at h; cases h; exact n _ rfl
  refine ⟨fun p xs h => ?_, fun p o xs h => jx p _ (ne p _ h fun _ z => nomatch z) h⟩
  rcases h with h | ⟨o, h⟩
  · exact .inl (jx p _ (ne p _ h fun _ z => nomatch z) h)
  · exact .inr ⟨o, jx p _ (ne p _ h fun _ z => nomatch z) h⟩
theorem Jx.updn {j l : Addr} {H H' : Hp} {o : HO} (jx : Jx j H H') (h : H l = none) : Jx j H (L2.upd H' l o) := fun a u n e => by
  have ne : a ≠ l := by rintro rfl; rw [h] at e; cases e
  rw [upd_ne ne]; exact jx a u n e
theorem Jx.back {j l : Addr} {H H' : Hp} (jx : Jx j H H') (hj : JarAt H' j) (h : H' l = none) : H l = none := by
  cases e : H l with
  | none => rfl
  | some o => rw [jx l o (hj.ne h) e] at h; cases h
theorem SchA.fk {H H' : Hp} {p : Addr} {ns : List Int} (h : SchA H p ns) (e : FK H H') : SchA H' p ns := let ⟨o, h1, h2⟩ := h; ⟨o, e.2 _ _ _ h1, h2⟩
theorem SchA.nej {H : Hp} {p j : Addr} {ns : List Int} (h : SchA H p ns) (hj : JarAt H j) : p ≠ j := by
  rintro rfl
  obtain ⟨o, h, _⟩ := h
  obtain ⟨a, b, hj, _⟩ := hj
  rw [h] at hj; cases hj
theorem BkN.fk {H H' : Hp} {v : V} {B : List (List Int)} (h : BkN H v B) (e : FK H H') : BkN H' v B := by
  obtain ⟨a, xs, rfl, h1, h2, h3⟩ := h
  exact ⟨a, xs, rfl, e.1 _ _ h1, h2, fun i s hs => let ⟨p, h4, h5⟩ := h3 i s hs; ⟨p, h4, h5.fk e⟩⟩
/-- values that are known schemes with W -/
def SchV (W : List Int → Prop) (v : V) (H : Hp) : Prop := ∃ p s, v = .ref p ∧ SchA H p s ∧ W s
theorem SchV.fk {W : List Int → Prop} {H H' : Hp} {v : V} (h : SchV W v H) (e : FK H H') : SchV W v H' := let ⟨p, s, h1, h2, h3⟩ := h; ⟨p, s, h1, h2.fk e, h3⟩
theorem schvs {W : List Int → Prop} {H : Hp} : ∀ {xs : List V}, (∀ v ∈ xs, SchV W v H) → ∃ B : List (List Int), xs.length = B.length ∧ (∀ s ∈ B, W s) ∧ ∀ (i : Nat) s, B[i]? = some s → ∃ p, xs[i]? = some (.ref p) ∧ SchA H p s
  | [], _ => ⟨[], rfl, (fun s h => nomatch h), fun i s h => by simp at h⟩
  | x :: xs, h => by
    obtain ⟨p, s, rfl, h1, h2⟩ := h x List.mem_cons_self
    obtain ⟨B, b1, b2, b3⟩ := schvs (xs := xs) fun v hv => h v (List.mem_cons_of_mem _ hv)
    refine ⟨s :: B, by simp [b1], fun t ht => ?_, fun i t hi => ?_⟩
    · rcases List.mem_cons.mp ht with rfl | ht
      · exact h2
      · exact b2 t ht
    · cases i with
      | zero => simp at hi; subst hi; exact ⟨p, rfl, h1⟩
      | succ i => simpa using b3 i t (by simpa using hi)
theorem bkn_of {W : List Int → Prop} {H : Hp} {xs : List V} {a : Addr} (h : ∀ v ∈ xs, SchV W v H) (hr : Rd H a (.tup xs)) : ∃ B, BkN H (.ref a) B ∧ B.length = xs.length ∧ ∀ s ∈ B, W s := by
  obtain ⟨B, b1, b2, b3⟩ := schvs h
  exact ⟨B, ⟨a, xs, rfl, hr, b1, b3⟩, b1.symm, b2⟩
theorem schvs_dp {K : PySem.W.Frag} {W : List Int → Prop} {H : Hp} {xs : List V} (h : ∀ v ∈ xs, SchV W v H) : ∃ B : List (List Int), xs.length = B.length ∧ (∀ s ∈ B, W s) ∧ DpAll K H xs (B.map schD) := by
  obtain ⟨B, b1, b2, b3⟩ := schvs h
  refine ⟨B, b1, b2, dpAll_of (by rw [b1, List.length_map]) fun i d hd => ?_⟩
  obtain ⟨s, hs, rfl⟩ := map_get hd
  obtain ⟨p, h4, h5⟩ := b3 i s hs
  exact ⟨_, h4, h5.dp⟩
section
variable {K : PySem.W.Frag} {σ : L2.St} {H : Hp} {j : Addr} {E : XK} {wi : TI} {te : TE} {tt : TA}
theorem r_cb1 {r : List V → Hp → VK → Prop} {D : Ends} (h : te σ H fun v H1 => r [v] H1 D.rt) : tRet (tCB r (tCons te tNil)) D σ H := h
theorem cb1 {r : List V → Hp → VK → Prop} {Q : VK} (h : te σ H fun v H1 => r [v] H1 Q) : tCB r (tCons te tNil) σ H Q := h
theorem r_raw {D : Ends} (h : te σ H D.rt) : tRet te D σ H := h
/-- a draw -/
theorem ej_take {top i : Nat} (hs : σ[i]? = some (some (.ref j))) (hj : JarAt H j) (ht : EDs K tt σ H [.int (top : Int)]) (h1 : 1 ≤ top) (h2 : top ≤ 1000) {Q : VK} (q : ∀ (d : Nat) H', d < top → Jx j H H' → JarAt H' j → Q (.int (d : Int)) H') :
    tCall TakeSp [] E (tCons (tVar i) tt) σ H Q :=
  ⟨_, hs, ht H (Ex.refl _) _ fun xs H2 e2 px => by
    obtain ⟨x, rfl, px1⟩ := dpa1 px
    cases dp_int px1
    exact ⟨j, top, rfl, hj.ex e2, h1, h2, fun d H' hd jx ja => q d H' hd ((Jx.of e2).trans jx) ja⟩⟩
/-- what is walked may be drawn; it stays while tuples stay -/
def EIJ (K : PySem.W.Frag) (j : Addr) (wi : TI) (σ : L2.St) (H : Hp) (C : List PyData → Prop) : Prop :=
  ∀ R : It → Hp → Prop, (∀ J H2 ds, Jx j H H2 → JarAt H2 j → C ds → Walk J ds.length (TK H2) (YD K ds) → R J H2) → wi σ H R
theorem eij_of {ds : List PyData} (hj : JarAt H j) (h : EI K wi σ H TK ds) : EIJ K j wi σ H (fun es => es = ds) := fun R k => h R fun J H2 e wk => k J H2 ds (Jx.of e) (hj.ex e) rfl wk
theorem eij_rng {C : Nat → Prop} (hn : ∀ n, C n → n ≤ 40000) (h : ∀ Q : VK, (∀ (n : Nat) H2, Jx j H H2 → JarAt H2 j → C n → Q (.int (n : Int)) H2) → te σ H Q) : EIJ K j (iRng1 (tCons te tNil)) σ H (fun ds => ∃ n, C n ∧ ds = rgD n) := fun R k =>
  h _ fun n H2 jx ja c => by
    have := hn n c
    refine ⟨n, rfl, by omega, by omega, ?_⟩
    have : (n : Int).toNat = n := by omega
    rw [this]
    exact k _ H2 _ jx ja ⟨n, c, rfl⟩ (YD_range (congrArg (fun f => (List.range n).map f) (funext fun i => by rw [Int.zero_add])))
/-- a comprehension of drawn values -/
theorem ej_lcV {vs : List Nat} {v : Nat} {C : List PyData → Prop} {P : V → Hp → Prop} (hi : EIJ K j wi σ H C) (hz : ∀ ds, C ds → ds.length ≤ 40000)
    (hw : ∀ x, wipe ((wipe σ vs).set v (some x)) vs = wipe σ vs) (hP : ∀ x H1 H2, FK H1 H2 → P x H1 → P x H2)
    (he : ∀ (ds : List PyData) (i : Nat) (d : PyData) (x : V) (H1 : Hp), C ds → ds[i]? = some d → Jx j H H1 → JarAt H1 j → Dp K H1 x d → ∀ Q : VK, (∀ y H2, Jx j H1 H2 → JarAt H2 j → P y H2 → Q y H2) → te ((wipe σ vs).set v (some x)) H1 Q)
    {Q : VK} (q : ∀ (ds : List PyData) (l : Addr) (xs : List V) (H2 : Hp), C ds → H l = none → Jx j H H2 → JarAt H2 j → H2 l = some (.lst xs) → xs.length = ds.length → (∀ y ∈ xs, P y H2) → Q (.ref l) H2) : tLc wi (gName v) tYes te vs σ H Q :=
  hi _ fun J H1 ds e1 hj1 cd wk Dl hD =>
    have hn := hj1.ne hD
    have hz := hz ds cd
    lc_it wk (fun i H' => Jx j H1 H' ∧ JarAt H' j ∧ ∃ acc, H' Dl = some (.lst acc) ∧ acc.length = i ∧ ∀ y ∈ acc, P y H') ⟨Jx.of (Ex.new hD), hj1.updn hn, [], upd_same, rfl, fun y h => nomatch h⟩
      (fun i H' _ p => (p.1.fk hj1).1) (fun i x H' H'' hi' p y => by
        obtain ⟨ey, d, hd, px⟩ := y
        obtain ⟨p1, p2, acc, p3, p4, p5⟩ := p
        refine ⟨hw x, he ds i d x H'' cd hd (e1.trans (p1.trans (Jx.of ey))) (p2.ex ey) px _ fun y H4 jx ja py => ?_⟩
        have hD4 := jx Dl _ hn (ey _ _ p3)
        have f := FK.upd_lst (o := .lst (acc ++ [y])) hD4
        refine ⟨acc, hD4, sz_lt (by omega), (p1.trans ((Jx.of ey).trans jx)).updn hD, ja.updn hn, acc ++ [y], upd_same, by rw [List.length_append, p4]; rfl, fun z hz => ?_⟩
        rcases List.mem_append.mp hz with h | h
        · exact hP z _ _ (((FK.of_ex ey).trans (jx.fk (p2.ex ey))).trans f) (p5 z h)
        · rw [List.mem_singleton.mp h]; exact hP y _ _ f py)
      (fun H' p => by
        obtain ⟨p1, p2, acc, p3, p4, p5⟩ := p
        exact q ds Dl acc H' cd (e1.back hj1 hD) (e1.trans p1) p2 p3 p4 p5)
/-- a loop while a jar is drawn from -/
theorem q_forJ {tu tz : TS} {g : TG} {D : Ends} {C : List PyData → Prop} (hi : EIJ K j wi σ H C) (Pv : List PyData → Hp → Nat → L2.St → Hp → Prop) (h0 : ∀ ds H2, C ds → Jx j H H2 → JarAt H2 j → Pv ds H2 0 σ H2) (hG : ∀ ds H2 i σ' H', C ds → JarAt H2 j → Pv ds H2 i σ' H' → TK H2 H')
    (hs : ∀ (ds : List PyData) (H2 : Hp) (i : Nat) (d : PyData) (x : V) (σ' : L2.St) (H' H'' : Hp), C ds → Jx j H H2 → JarAt H2 j → ds[i]? = some d → Pv ds H2 i σ' H' → Ex H' H'' → Dp K H'' x d → g x σ' H'' fun σ3 H3 => tu { D with nx := Pv ds H2 (i + 1), ct := Pv ds H2 (i + 1), bk := tz D } σ3 H3)
    (hd : ∀ ds H2 σ' H', C ds → Jx j H H2 → JarAt H2 j → Pv ds H2 ds.length σ' H' → tz D σ' H') : tSeq (tFor wi g tu) tz D σ H :=
  hi _ fun J H2 ds e2 hj2 cd wk => for_it (D := { D with nx := tz D }) wk (Pv ds H2) (h0 ds H2 cd e2 hj2) (fun i σ' H' hi p => hG ds H2 i σ' H' cd hj2 p) (fun i x σ' H' H'' hi p y => by
    obtain ⟨ey, d, hd', px⟩ := y
    exact hs ds H2 i d x σ' H' H'' cd e2 hj2 hd' p ey px) (fun σ' H' p => hd ds H2 σ' H' cd e2 hj2 p)
/-- .. without drawing -/
theorem el_lcV {vs : List Nat} {v : Nat} {ds : List PyData} {P : V → Hp → Prop} (hi : EI K wi σ H Ex ds) (hz : ds.length ≤ 40000)
    (hw : ∀ x, wipe ((wipe σ vs).set v (some x)) vs = wipe σ vs) (hP : ∀ x H1 H2, FK H1 H2 → P x H1 → P x H2)
    (he : ∀ (i : Nat) (d : PyData) (x : V) (H1 : Hp), ds[i]? = some d → Ex H H1 → Dp K H1 x d → ∀ Q : VK, (∀ y H2, Ex H1 H2 → P y H2 → Q y H2) → te ((wipe σ vs).set v (some x)) H1 Q)
    {Q : VK} (q : ∀ (l : Addr) (xs : List V) (H2 : Hp), H l = none → Ex H H2 → H2 l = some (.lst xs) → xs.length = ds.length → (∀ y ∈ xs, P y H2) → Q (.ref l) H2) : tLc wi (gName v) tYes te vs σ H Q :=
  hi _ fun J H1 e1 wk Dl hD =>
    lc_it wk (fun i H' => Ex H1 H' ∧ ∃ acc, H' Dl = some (.lst acc) ∧ acc.length = i ∧ ∀ y ∈ acc, P y H') ⟨Ex.new hD, [], upd_same, rfl, fun y h => nomatch h⟩
      (fun i H' _ p => p.1) (fun i x H' H'' hi' p y => by
        obtain ⟨ey, d, hd, px⟩ := y
        obtain ⟨p1, acc, p3, p4, p5⟩ := p
        refine ⟨hw x, he i d x H'' hd (e1.trans (p1.trans ey)) px _ fun y H4 e4 py => ?_⟩
        have hD4 := e4 Dl _ (ey _ _ p3)
        have f := FK.upd_lst (o := .lst (acc ++ [y])) hD4
        refine ⟨acc, hD4, sz_lt (by omega), Ex.mut (p1.trans (ey.trans e4)) hD, acc ++ [y], upd_same, by rw [List.length_append, p4]; rfl, fun z hz => ?_⟩
        rcases List.mem_append.mp hz with h | h
        · exact hP z _ _ (((FK.of_ex ey).trans (FK.of_ex e4)).trans f) (p5 z h)
        · rw [List.mem_singleton.mp h]; exact hP y _ _ f py)
      (fun H' p => by
        obtain ⟨p1, acc, p3, p4, p5⟩ := p
        exact q Dl acc H' (fresh_back e1 hD) (e1.trans p1) p3 p4 p5)
/-- tuple(xs) of a list of ints: a known scheme -/
theorem rn_new {a : Addr} {ns : List Int} (h : SqL K H a (ns.map V.int)) {Q : VK} (q : ∀ l H', H l = none → Ex H H' → SchA H' l ns → Q (.ref l) H') : rTupN K [.ref a] H Q := ⟨a, ns, rfl, h, q⟩
/-- tuple(sorted(xs)) of ints -/
theorem en_srt {tl : TE} {ns : List Int} (h : ∀ Q : VK, (∀ a H1, Ex H H1 → SqL K H1 a (ns.map V.int) → Q (.ref a) H1) → tl σ H Q) {Q : VK} (q : ∀ l H', H l = none → Ex H H' → SchA H' l (srtI ns) → Q (.ref l) H') :
    tCB (rTupN K) (tCons (tCB (rSortedI K) (tCons tl tNil)) tNil) σ H Q :=
  h _ fun a H1 e1 h1 => ⟨a, ns, rfl, h1, fun ns' p hp hs hl => by
    have : ns' = srtI ns := perm_le_eq (hp.trans (srtI_perm ns).symm) hs (srtI_le ns)
    subst this
    exact ⟨p, _, rfl, .inl (.inl upd_same), fun l H' hl' e' s => q l H' (fresh_back (e1.trans (Ex.new hl)) hl') ((e1.trans (Ex.new hl)).trans e') s⟩⟩
end
/-! ### schemes that are drawn -/
/-- rising columns below w, one to m -/
def SchP (w m : Nat) (ns : List Int) : Prop := ns.Pairwise (· < ·) ∧ (∀ x ∈ ns, 0 ≤ x ∧ x < (w : Int)) ∧ 1 ≤ ns.length ∧ ns.length ≤ m
theorem SchP.mono {w m w' m' : Nat} {ns : List Int} (h : SchP w m ns) (hw : w ≤ w') (hm : m ≤ m') : SchP w' m' ns := ⟨h.1, fun x hx => ⟨(h.2.1 x hx).1, by have := (h.2.1 x hx).2; omega⟩, h.2.2.1, by have := h.2.2.2; omega⟩
theorem lt_of_le_nodup : ∀ {ns : List Int}, ns.Pairwise (· ≤ ·) → ns.Nodup → ns.Pairwise (· < ·)
  | [], _, _ => .nil
  | n :: ns, h, d => by
    rw [List.pairwise_cons] at h ⊢
    rw [List.nodup_cons] at d
    exact ⟨fun m hm => by
      have h1 := h.1 m hm
      have : n ≠ m := fun z => d.1 (z ▸ hm)
      omega, lt_of_le_nodup h.2 d.2⟩
theorem srt_sch {w m : Nat} {ns : List Int} (hd : ns.Nodup) (h1 : ∀ x ∈ ns, 0 ≤ x ∧ x < (w : Int)) (h2 : 1 ≤ ns.length) (h3 : ns.length ≤ m) : SchP w m (srtI ns) :=
  ⟨lt_of_le_nodup (srtI_le ns) ((srtI_perm ns).nodup_iff.mpr hd), fun x hx => h1 x ((srtI_perm ns).mem_iff.mp hx), by rw [(srtI_perm ns).length_eq]; exact h2, by rw [(srtI_perm ns).length_eq]; exact h3⟩
/-- books that are drawn -/
def BookR (B : List (List Int)) : Prop := 1 ≤ B.length ∧ B.length ≤ 4 ∧ ∀ s ∈ B, SchP 24 8 s
theorem SchP.schB {s : List Int} (h : SchP 24 8 s) : schB s = true := by
  obtain ⟨h1, h2, h3, h4⟩ := h
  unfold BB.schB risB adjB
  simp only [Bool.and_eq_true, decide_eq_true_eq, List.all_eq_true]
  refine ⟨⟨fun x hx => ⟨(h2 x hx).1, by have := (h2 x hx).2; omega⟩, fun k hk => ?_⟩, by omega, by omega⟩
  have hk := List.mem_range.mp hk
  have a1 : k < s.length := by omega
  have a2 : k + 1 < s.length := by omega
  rw [List.getD_eq_getElem?_getD, List.getD_eq_getElem?_getD, List.getElem?_eq_getElem a1, List.getElem?_eq_getElem a2]
  exact List.pairwise_iff_getElem.mp h1 k (k + 1) a1 a2 (Nat.lt_succ_self k)
theorem BookR.book {B : List (List Int)} (h : BookR B) : bookB B := ⟨h.1, by have := h.2.1; omega, fun s hs => (h.2.2 s hs).schB⟩
end BB
/-! L10: mixed. -/
namespace BB
open PySem L2 Evl LamX
theorem erase_perm {α : Type} {l : List α} {i : Nat} (h : i < l.length) : (l[i] :: l.eraseIdx i).Perm l := by
  rw [List.eraseIdx_eq_take_drop_succ]
  have e : l.take i ++ l[i] :: l.drop (i + 1) = l := by rw [← List.drop_eq_getElem_cons h, List.take_append_drop]
  exact List.perm_middle.symm.trans (List.Perm.of_eq e)
theorem ei_rngQ {K : PySem.W.Frag} {σ : L2.St} {H : Hp} {GG : Hp → Hp → Prop} {p : Addr} {xs : List V} {i : Nat} (hs : σ[i]? = some (some (.ref p))) (h : SqL K H p xs ∨ SqT K H p xs) (hn : xs.length ≤ 100000) : EI K (iRng1 (tCons (tCB (rLen K) (tCons (tVar i) tNil)) tNil)) σ H GG (rgD xs.length) := fun R k => by
  refine ⟨_, hs, ⟨p, xs, rfl, h, ?_⟩⟩
  refine ⟨xs.length, rfl, by omega, by omega, k _ H (Ex.refl _) ?_⟩
  have : ((xs.length : Int)).toNat = xs.length := by omega
  rw [this]
  refine YD_range ?_
  exact congrArg (fun f => (List.range xs.length).map f) (funext fun i => by rw [Int.zero_add])
def MixSp (K : PySem.W.Frag) : Sp := fun vs H Q _ => ∃ (j p : Addr) (xs : List V), vs = [.ref j, .ref p] ∧ JarAt H j ∧ (SqL K H p xs ∨ SqT K H p xs) ∧ xs.length ≤ 1000 ∧ ∀ (l : Addr) (ys : List V) H', H l = none → ys.Perm xs → H' l = some (.lst ys) → Jx j H H' → JarAt H' j → Q (.ref l) H'
section
variable {P : Program} {w : World} {K : PySem.W.Frag} {mg : Str → Option Value} {base : Heap}
theorem sc__law_mixed : FnScope ["_law_jar", "_law_things", "_law_left_over", "_law_found", "_law_place"] ["_law_jar", "_law_things"] (defScope st__law_mixed) := ⟨rfl, rfl, rfl, by decide +kernel, rfl, by decide +kernel, by decide +kernel⟩
theorem ok__law_mixed (T : Txt K mg) : FnOk P w K mg base CX0 2 T.d__law_mixed.f T.d__law_mixed.fd ["_law_jar", "_law_things"] (MixSp K) := by
  refine T.d__law_mixed.F.ok sc__law_mixed ?len (fun cdv A outer s H vs Q E hr h => ?_)
  case len =>
    rintro vs H Q E ⟨j, p, xs, rfl, _⟩
    rfl
  obtain ⟨j, p, xs, rfl, hj, hx, h2, k⟩ := h
  refine ⟨_, (pss_cons (ps_par (i := 2) (j := 3) rfl sc__law_mixed.nd rfl rfl (by decide) rfl rfl (pa_cons (pe_callTy (listK (K := K)) (by rfl) T.b_list (by decide +kernel) (pa_cons (pv 1) pa_nil)) (pa_cons (pe_lst pa_nil) pa_nil)) (by rfl))
      (pss_cons (ps_for PassesOwn.never rfl (pi_range1 (by rfl) T.b_range (pa_cons (pe_callB (lenK (K := K)) (by rfl) T.b_len (by decide +kernel) (pa_cons (pv 1) pa_nil)) pa_nil)) (pg_name (i := 4) sc__law_mixed.nd rfl (by first | exact Or.inl rfl | exact Or.inr rfl))
      (pss_one (ps_expr (pe_bm PySem.F.plainAttrs_list PySem.F.slot_list_append PySem.F.type_list_append mt_append (pv 3) (pa_cons (pe_bm PySem.F.plainAttrs_list PySem.F.slot_list_pop PySem.F.type_list_pop mt_popAt (pv 2) (pa_cons (pe_call (ok__law_take (P := P) (w := w) T) (hr.mono (by decide)) (by rfl) T.d__law_take.g T.d__law_take.F.kp T.d__law_take.b .nil pass0 (pa_cons (pv 0) (pa_cons (pe_callB (lenK (K := K)) (by rfl) T.b_len (by decide +kernel) (pa_cons (pv 2) pa_nil)) pa_nil))) pa_nil)) pa_nil)))))
      (pss_one (ps_ret (pv 3))))), ?_⟩
  refine ⟨_, rfl, p, xs, rfl, hx, fun l hl => ⟨Nat.zero_le _, fun m hm => ⟨_, _, rfl, ?_⟩⟩⟩
  have hml : m ≠ l := fun z => by rw [z, upd_same] at hm; cases hm
  have hmn : H m = none := by rw [upd_ne hml] at hm; exact hm
  have hlj := hj.ne hl
  have hmj := hj.ne hmn
  have e1 : Ex H (upd (upd H l (.lst xs)) m (.lst [])) := (Ex.new hl).trans (Ex.new hm)
  have hx1 : SqL K (upd (upd H l (.lst xs)) m (.lst [])) p xs ∨ SqT K (upd (upd H l (.lst xs)) m (.lst [])) p xs := hx.imp (ex_l e1) (ex_t e1)
  refine q_forD (ei_rngQ (GG := fun _ _ => True) rfl hx1 (by omega)) (fun H2 i σ' H' => ∃ v, σ' = [some (.ref j), some (.ref p), some (.ref l), some (.ref m), v] ∧ ∃ left found, H' l = some (.lst left) ∧ H' m = some (.lst found) ∧ found.length = i ∧ (found ++ left).Perm xs ∧ Jx j H H' ∧ JarAt H' j)
    (fun H2 e2 => ⟨_, rfl, xs, [], e2 _ _ (by rw [upd_ne (Ne.symm hml), upd_same]), e2 _ _ upd_same, rfl, List.Perm.refl _, (Jx.of e1).trans (Jx.of e2), (hj.ex e1).ex e2⟩) (fun _ _ _ _ _ _ => trivial) (fun H2 i d x σ' H' H'' e2 hd p ey px => ?_) (fun H2 σ' H' e2 p => ?_)
  · obtain ⟨v, rfl, left, found, p1, p2, p3, p4, p5, p6⟩ := p
    have hi : i < xs.length := by
      have := (List.getElem?_eq_some_iff.mp hd).1
      rwa [rgD_len] at this
    have hll : left.length = xs.length - i := by
      have := p4.length_eq
      rw [List.length_append] at this
      omega
    have p1' := ey _ _ p1
    refine ⟨_, rfl, Or.inl ⟨rfl, found, sq_of (ey _ _ p2)⟩, ⟨_, rfl, Or.inl ⟨rfl, left, sq_of p1'⟩, ?_⟩⟩
    refine ⟨_, rfl, ⟨_, rfl, l, left, rfl, .inl (sq_of p1'), ?_⟩⟩
    refine ⟨j, left.length, rfl, p6.ex ey, by omega, by omega, fun d H3 hd jx ja => ?_⟩
    have q1 := jx l _ hlj p1'
    have q2 := jx m _ hmj (ey _ _ p2)
    refine ⟨l, left, d, d, left[d], rfl, rfl, q1, by omega, by omega, ?_, List.getElem?_eq_getElem hd, ?_⟩
    · have := seqIndex_of (k := (d : Int)) (n := left.length) (by omega) (by omega)
      rw [this]; rfl
    have q2' : upd H3 l (.lst (left.eraseIdx d)) m = some (.lst found) := by rw [upd_ne hml]; exact q2
    refine ⟨m, found, left[d], rfl, rfl, q2', sz_lt (by omega), ?_⟩
    refine ⟨_, rfl, left.eraseIdx d, found ++ [left[d]], by rw [upd_ne (Ne.symm hml), upd_same], upd_same, by rw [List.length_append, p3]; rfl, ?_, ((p5.trans ((Jx.of ey).trans jx)).updn hl).updn hmn, (ja.updn hlj).updn hmj⟩
    rw [List.append_assoc]
    exact (List.Perm.append_left found (erase_perm hd)).trans p4
  · obtain ⟨v, rfl, left, found, p1, p2, p3, p4, p5, p6⟩ := p
    have hl0 : left = [] := by
      have := p4.length_eq
      rw [List.length_append, p3, rgD_len] at this
      exact List.eq_nil_of_length_eq_zero (by omega)
    subst hl0
    rw [List.append_nil] at p4
    exact ⟨_, rfl, k m found H' hmn p4 p2 p5 p6⟩
end
end BB
/-! L11: rising. -/
namespace BB
open PySem L2 Evl LamX
/-- a list of ints, or a tuple -/
def lotU (p : Bool × List Int) : PyData := if p.1 then .list (p.2.map PyData.int) else .tuple (p.2.map PyData.int)
def risA (Ls : List (Bool × List Int)) : List Int := Ls.foldl (fun acc L => acc ++ L.2.filter fun x => !decide (x ∈ acc)) []
theorem risA_snoc (Ls : List (Bool × List Int)) (L : Bool × List Int) : risA (Ls ++ [L]) = risA Ls ++ L.2.filter fun x => !decide (x ∈ risA Ls) := by
  unfold risA
  rw [List.foldl_append]; rfl
theorem risA_ok : ∀ {Ls : List (Bool × List Int)}, (∀ L ∈ Ls, L.2.Nodup) → (risA Ls).Nodup ∧ ∀ x, x ∈ risA Ls ↔ ∃ L ∈ Ls, x ∈ L.2 := by
  intro Ls
  induction Ls using snoc_ind with
  | h0 => intro _; exact ⟨List.nodup_nil, fun x => ⟨fun h => (nomatch (h : x ∈ ([] : List Int))), fun ⟨L, h, _⟩ => nomatch h⟩⟩
  | h1 Ls L ih =>
    intro h
    obtain ⟨i1, i2⟩ := ih fun M hM => h M (List.mem_append_left _ hM)
    rw [risA_snoc]
    refine ⟨List.nodup_append.mpr ⟨i1, (h L (List.mem_append_right _ List.mem_cons_self)).filter _, fun a ha b hb e => ?_⟩, fun x => ?_⟩
    · subst e
      have := (List.mem_filter.mp hb).2
      simp [ha] at this
    · rw [List.mem_append, List.mem_filter]
      constructor
      · rintro (hx | ⟨hx, _⟩)
        · obtain ⟨M, hM, hx⟩ := (i2 x).mp hx
          exact ⟨M, List.mem_append_left _ hM, hx⟩
        · exact ⟨L, List.mem_append_right _ List.mem_cons_self, hx⟩
      · rintro ⟨M, hM, hx⟩
        rcases List.mem_append.mp hM with hM | hM
        · exact .inl ((i2 x).mpr ⟨M, hM, hx⟩)
        · rw [List.mem_singleton.mp hM] at hx
          by_cases q : x ∈ risA Ls
          · exact .inl q
          · exact .inr ⟨hx, by simp [q]⟩
def sumL (Ls : List (Bool × List Int)) : Nat := (Ls.map fun L => L.2.length).sum
theorem risA_len : ∀ {Ls : List (Bool × List Int)}, (risA Ls).length ≤ sumL Ls := by
  intro Ls
  induction Ls using snoc_ind with
  | h0 => exact Nat.zero_le _
  | h1 Ls L ih =>
    rw [risA_snoc, List.length_append]
    have := List.length_filter_le (fun x => !decide (x ∈ risA Ls)) L.2
    unfold sumL at ih ⊢
    rw [List.map_append, List.sum_append]
    simp only [List.map_cons, List.map_nil, List.sum_cons, List.sum_nil]
    omega
theorem sumL_take (Ls : List (Bool × List Int)) (i : Nat) : sumL (Ls.take i) ≤ sumL Ls := by
  unfold sumL
  have : (Ls.map fun L => L.2.length).sum = ((Ls.take i).map fun L => L.2.length).sum + ((Ls.drop i).map fun L => L.2.length).sum := by
    rw [← List.sum_append, ← List.map_append, List.take_append_drop]
  omega
def RisSp (K : PySem.W.Frag) : Sp := fun vs H Q _ => ∃ (x : V) (Ls : List (Bool × List Int)), vs = [x] ∧ Dp K H x (.list (Ls.map lotU)) ∧ Ls.length ≤ 1000 ∧ sumL Ls ≤ 1000 ∧ ∀ l H', H l = none → Ex H H' → SchA H' l (srtI (risA Ls)) → Q (.ref l) H'
theorem ei_u {K : PySem.W.Frag} {σ : L2.St} {H : Hp} {tl : TE} {L : Bool × List Int} (h : ED K tl σ H (lotU L)) : EI K (iSeqU K tl) σ H Ex (L.2.map PyData.int) := fun R k =>
  h H (Ex.refl _) _ fun v H2 e2 p => by
    unfold lotU at p
    cases hb : L.1 with
    | true =>
      rw [hb] at p
      obtain ⟨pa, xs, rfl, h1, h2⟩ := dp_lst p
      exact ⟨pa, rfl, .inl ⟨⟨xs, h1⟩, k _ H2 e2 (walk_lstD (fun H' g => ⟨ex_l g h1, h2.ex g⟩) h2.length)⟩⟩
    | false =>
      rw [hb] at p
      obtain ⟨pa, xs, rfl, h1, h2⟩ := dp_tup p
      exact ⟨pa, rfl, .inr ⟨⟨xs, h1⟩, k _ H2 e2 (walk_tupD (fun H' g => ⟨ex_t g h1, h2.ex g⟩) h2.length)⟩⟩
section
variable {P : Program} {w : World} {K : PySem.W.Frag} {mg : Str → Option Value} {base : Heap}
theorem sc__law_rising : FnScope ["_law_lists", "_law_found", "_law_one_here", "_law_thing"] ["_law_lists"] (defScope st__law_rising) := ⟨rfl, rfl, rfl, by decide +kernel, rfl, by decide +kernel, by decide +kernel⟩
theorem ok__law_rising (T : Txt K mg) : FnOk P w K mg base CX0 1 T.d__law_rising.f T.d__law_rising.fd ["_law_lists"] (RisSp K) := by
  refine T.d__law_rising.F.ok sc__law_rising ?len (fun cdv A outer s H vs Q E hr h => ?_)
  case len =>
    rintro vs H Q E ⟨x, Ls, rfl, _⟩
    rfl
  obtain ⟨x, Ls, rfl, hx, hn, hs, k⟩ := h
  refine ⟨_, (pss_cons (ps_set (i := 1) sc__law_rising.nd rfl (by first | exact Or.inl rfl | exact Or.inr rfl) (pe_lst pa_nil))
      (pss_cons (ps_for PassesOwn.never rfl (piLK (K := K) (pv 0)) (pg_name (i := 2) sc__law_rising.nd rfl (by first | exact Or.inl rfl | exact Or.inr rfl))
      (pss_one (ps_expr (pe_bm PySem.F.plainAttrs_list PySem.F.slot_list_extend PySem.F.type_list_extend mt_extend (pv 1) (pa_cons (pe_lc (own := [("_law_thing", 3)]) rfl sc__law_rising.nd (piUK (K := K) (pv 2)) (blkOk_by (own := [("_law_thing", 3)]) (N := ["_law_lists", "_law_found", "_law_one_here", "_law_thing"]) (sc := defScope st__law_rising) (by decide +kernel)) (fun _ _ _ _ _ => (pg_name (i := 3) sc__law_rising.nd rfl (by first | exact Or.inl rfl | exact Or.inr rfl))) (fun _ _ _ _ _ => pts_one (pt_cmpR (niK (K := K)) (pv 3) (pv 1) (by rfl))) (fun _ _ _ _ _ => (pv 3))) pa_nil)))))
      (pss_one (ps_ret (pe_callTy (tupNK (K := K)) (by rfl) T.b_tuple (by decide +kernel) (pa_cons (pe_callB (srtK (K := K)) (by rfl) T.b_sorted (by decide +kernel) (pa_cons (pv 1) pa_nil)) pa_nil)))))), ?_⟩
  refine q_asgR ⟨Nat.zero_le _, fun m hm => ?_⟩
  obtain ⟨pa, xs, rfl, x1, x2⟩ := dp_lst hx
  refine q_forD (GG := fun _ H' => Ex H H') (ds := Ls.map lotU) (fun R kk => ⟨_, rfl, pa, rfl, ⟨xs, ex_l (Ex.new hm) x1⟩, kk _ _ (Ex.refl _) (walk_lstD (fun H' g => ⟨ex_l g x1, x2.ex g⟩) x2.length)⟩)
    (fun H2 i σ' H' => ∃ v, σ' = [some (.ref pa), some (.ref m), v, none] ∧ ML K H' m ((risA (Ls.take i)).map PyData.int) ∧ Ex H H')
    (fun H2 e2 => ⟨_, rfl, ⟨[], e2 _ _ upd_same, .nil⟩, (Ex.new hm).trans e2⟩) (fun _ _ _ _ _ p => by obtain ⟨v, _, _, p⟩ := p; exact p) (fun H2 i d y σ' H' H'' e2 hd p ey px => ?_) (fun H2 σ' H' e2 p => ?_)
  · obtain ⟨v, rfl, p1, p2⟩ := p
    obtain ⟨L, hL, rfl⟩ := map_get hd
    have hsum := sumL_take Ls (i + 1)
    have ha := risA_len (Ls := Ls.take i)
    rw [take_succ_of hL] at hsum
    have hse : sumL (Ls.take i ++ [L]) = sumL (Ls.take i) + L.2.length := by
      unfold sumL
      rw [List.map_append, List.sum_append]
      rfl
    have hf := List.length_filter_le (fun x => !decide (x ∈ risA (Ls.take i))) L.2
    refine s_extD (p1.ex ey) rfl (stayAll_map fun _ _ => rfl) (EL.src (el_lc (xs := L.2) (enc := PyData.int) (f := fun x => !decide (x ∈ risA (Ls.take i))) (w := PyData.int) (fun H1 e1 => ei_u (ed_var rfl (px.ex e1))) (by omega) (fun _ _ _ => rfl) (fun _ => rfl)
      (fun x u H1 hx e1 pu => et_B (ed_op (ed_var rfl pu) (((p1.ex ey).ex e1).ed rfl) rd_niL)) (fun x u H1 hx e1 pu _ => ed_var rfl pu))) (stayAll_map fun _ _ => rfl) (by rw [List.length_map, List.length_map]; omega) (fun H2 st ml => ⟨_, rfl, ?_, st.ex0 (p2.trans ey) hm⟩)
    rw [take_succ_of hL, risA_snoc, List.map_append]
    exact ml
  · obtain ⟨v, rfl, p1, p2⟩ := p
    rw [List.length_map, List.take_length] at p1
    obtain ⟨ys, y1, y2⟩ := p1
    cases dpa_ints y2
    exact en_srt (ns := risA Ls) (fun Q q => ⟨_, rfl, q m H' (Ex.refl _) (sq_of y1)⟩) (fun l H3 hl e3 hs => k l H3 (fresh_back p2 hl) (p2.trans e3) hs)
end
end BB
/-! L12: schemes and loose books. -/
namespace BB
open PySem L2 Evl LamX
/-- a def that draws a scheme -/
def SchSp : Sp := fun vs H Q _ => ∃ (j : Addr) (wide most : Nat), vs = [.ref j, .int (wide : Int), .int (most : Int)] ∧ JarAt H j ∧ 1 ≤ wide ∧ wide ≤ 24 ∧ 1 ≤ most ∧ most ≤ 24 ∧ ∀ l ns H', Jx j H H' → JarAt H' j → SchA H' l ns → SchP wide most ns → Q (.ref l) H'
/-- what a def that draws a book promises -/
def BookK (j : Addr) (H : Hp) (Q : VK) : Prop := ∀ v B H', Jx j H H' → JarAt H' j → BkN H' v B → BookR B → Q v H'
theorem rgD_ints (n : Nat) : rgD n = ((List.range n).map fun (i : Nat) => (i : Int)).map PyData.int := by rw [List.map_map]; rfl
theorem rgI_ok (n : Nat) : ((List.range n).map fun (i : Nat) => (i : Int)).Nodup ∧ ∀ x, x ∈ ((List.range n).map fun (i : Nat) => (i : Int)) ↔ 0 ≤ x ∧ x < (n : Int) := by
  refine ⟨List.Pairwise.map _ (fun a b h => by show (a : Int) ≠ b; have : a ≠ b := h; omega) List.nodup_range, fun x => ?_⟩
  rw [List.mem_map]
  constructor
  · rintro ⟨i, hi, rfl⟩
    have := List.mem_range.mp hi
    omega
  · rintro ⟨h1, h2⟩
    exact ⟨x.toNat, List.mem_range.mpr (by omega), by omega⟩
theorem perm_ints {ys : List V} {ns : List Int} (h : ys.Perm (ns.map V.int)) : ∃ ms : List Int, ys = ms.map V.int ∧ ms.Perm ns := by
  have : ∀ v ∈ ys, ∃ n : Int, v = .int n := fun v hv => by
    obtain ⟨n, _, e⟩ := List.mem_map.mp (h.mem_iff.mp hv)
    exact ⟨n, e.symm⟩
  have : ∃ ms : List Int, ys = ms.map V.int := by
    clear h
    induction ys with
    | nil => exact ⟨[], rfl⟩
    | cons y ys ih =>
      obtain ⟨n, rfl⟩ := this y List.mem_cons_self
      obtain ⟨ms, e⟩ := ih fun v hv => this v (List.mem_cons_of_mem _ hv)
      exact ⟨n :: ms, by rw [e]; rfl⟩
  obtain ⟨ms, rfl⟩ := this
  refine ⟨ms, rfl, ?_⟩
  have h2 := h.map (fun v => match v with | V.int n => n | _ => 0)
  rw [List.map_map, List.map_map] at h2
  have e : ∀ l : List Int, l.map ((fun v => match v with | V.int n => n | _ => 0) ∘ V.int) = l := fun l => by
    conv => rhs; rw [← List.map_id l]
    rfl
  rw [e, e] at h2
  exact h2
section
variable {P : Program} {w : World} {K : PySem.W.Frag} {mg : Str → Option Value} {base : Heap}
/-- [c for c in range(n)] as a list of values -/
theorem el_rng {σ : L2.St} {H : Hp} {tr : TA} {vs : List Nat} {v n : Nat} (h : EDs K tr σ H [.int (n : Int)]) (hn : n ≤ 1000) (hw : ∀ x, wipe ((wipe σ vs).set v (some x)) vs = wipe σ vs) (hv : ∀ x : V, ((wipe σ vs).set v (some x))[v]? = some (some x)) :
    EL K (tLc (iRng1 tr) (gName v) tYes (tVar v) vs) σ H (((List.range n).map fun (i : Nat) => (i : Int)).map PyData.int) := by
  have := el_lcY (K := K) (σ := σ) (H := H) (wi := iRng1 tr) (te := tVar v) (vs := vs) (j := v) (xs := List.range n) (enc := fun (i : Nat) => PyData.int (i : Int)) (w := fun (i : Nat) => PyData.int (i : Int))
    (fun H1 e1 => ei_rng (fun H2 e2 => h H2 (e1.trans e2)) (by omega)) (by rw [List.length_range]; omega) (fun _ _ => rfl) hw (fun d x H1 _ _ px => ed_var (hv x) px)
  rw [List.map_map]
  exact this
theorem sc__law_scheme : FnScope ["_law_jar", "_law_wide", "_law_most", "_law_lot", "_law_c"] ["_law_jar", "_law_wide", "_law_most"] (defScope st__law_scheme) := ⟨rfl, rfl, rfl, by decide +kernel, rfl, by decide +kernel, by decide +kernel⟩
theorem ok__law_scheme (T : Txt K mg) : FnOk P w K mg base CX0 3 T.d__law_scheme.f T.d__law_scheme.fd ["_law_jar", "_law_wide", "_law_most"] SchSp := by
  refine T.d__law_scheme.F.ok sc__law_scheme ?len (fun cdv A outer s H vs Q E hr h => ?_)
  case len =>
    rintro vs H Q E ⟨j, wd, mo, rfl, _⟩
    rfl
  obtain ⟨j, wd, mo, rfl, hj, w1, w2, m1, m2, k⟩ := h
  refine ⟨_, (pss_cons (ps_set (i := 3) sc__law_scheme.nd rfl (by first | exact Or.inl rfl | exact Or.inr rfl) (pe_slice (slLK (K := K)) (pe_call (ok__law_mixed (P := P) (w := w) T) (hr.mono (by decide)) (by rfl) T.d__law_mixed.g T.d__law_mixed.F.kp T.d__law_mixed.b .nil pass0 (pa_cons (pv 0) (pa_cons (pe_lc (own := [("_law_c", 4)]) rfl sc__law_scheme.nd (pi_range1 (by rfl) T.b_range (pa_cons (pv 1) pa_nil)) (blkOk_by (own := [("_law_c", 4)]) (N := ["_law_jar", "_law_wide", "_law_most", "_law_lot", "_law_c"]) (sc := defScope st__law_scheme) (by decide +kernel)) (fun _ _ _ _ _ => (pg_name (i := 4) sc__law_scheme.nd rfl (by first | exact Or.inl rfl | exact Or.inr rfl))) (fun _ _ _ _ _ => pts_nil) (fun _ _ _ _ _ => (pv 4))) pa_nil))) po_none (po_some (pe_op op_add pe_int (pe_call (ok__law_take (P := P) (w := w) T) (hr.mono (by decide)) (by rfl) T.d__law_take.g T.d__law_take.F.kp T.d__law_take.b .nil pass0 (pa_cons (pv 0) (pa_cons (pv 2) pa_nil)))))))
      (pss_one (ps_ret (pe_callTy (tupNK (K := K)) (by rfl) T.b_tuple (by decide +kernel) (pa_cons (pe_callB (srtK (K := K)) (by rfl) T.b_sorted (by decide +kernel) (pa_cons (pv 3) pa_nil)) pa_nil))))), ?_⟩
  refine q_asgR ⟨_, rfl, el_rng (K := K) (eds_cons (ed_var rfl (.int _)) eds_nil) (by omega) (fun _ => rfl) (fun _ => rfl) H (Ex.refl _) _ fun p xs H1 hp e1 h1 d1 => ?_⟩
  have hx := dpa_ints d1
  subst hx
  refine ⟨j, p, _, rfl, hj.ex e1, .inl (sq_of h1), by rw [List.length_map, List.length_map, List.length_range]; omega, fun l ys H2 hl hp2 h2 jx ja => ?_⟩
  obtain ⟨ms, rfl, hms⟩ := perm_ints hp2
  refine ej_take (K := K) rfl ja (eds_cons (ed_var rfl (.int _)) eds_nil) m1 (by omega) fun d H3 hd jx3 ja3 => ?_
  have hlj : l ≠ j := fun z => by
    subst z
    obtain ⟨a, b, hh, _⟩ := hj.ex e1
    rw [hl] at hh; cases hh
  refine ⟨1, d, rfl, rfl, ⟨_, rfl, l, ms.map V.int, rfl, sq_of (jx3 l _ hlj h2), fun q hq => ?_⟩⟩
  have e : (1 + (d : Int)) = ((1 + d : Nat) : Int) := by omega
  rw [e, cut_to, ← List.map_take]
  refine en_srt (ns := ms.take (1 + d)) (fun Q q1 => ⟨_, rfl, q1 q _ (Ex.refl _) (sq_of upd_same)⟩) fun l' H' hl' e' hs => ?_
  have hnd : ms.Nodup := hms.nodup_iff.mpr (rgI_ok wd).1
  have hlen : ms.length = wd := by rw [hms.length_eq, List.length_map, List.length_range]
  exact k l' _ H' ((((Jx.of e1).trans jx).trans jx3).trans ((Jx.of (Ex.new hq)).trans (Jx.of e'))) ((ja3.ex (Ex.new hq)).ex e') hs
    (srt_sch (hnd.sublist (List.take_sublist _ _)) (fun x hx => (rgI_ok wd).2 x |>.mp (hms.mem_iff.mp (List.mem_of_mem_take hx))) (by rw [List.length_take]; omega) (by rw [List.length_take]; omega))
theorem sc__law_loose_book : FnScope ["_law_jar", "_law_most", "_law_wide", "_law_i"] ["_law_jar", "_law_most", "_law_wide"] (defScope st__law_loose_book) := ⟨rfl, rfl, rfl, by decide +kernel, rfl, by decide +kernel, by decide +kernel⟩
/-- the defs that draw books of so many sources, so many columns -/
def BkWSp : Sp := fun vs H Q _ => ∃ (j : Addr) (most wide : Nat), vs = [.ref j, .int (most : Int), .int (wide : Int)] ∧ JarAt H j ∧ 1 ≤ wide ∧ wide ≤ 24 ∧ 1 ≤ most ∧ most ≤ 4 ∧ BookK j H Q
theorem ok__law_loose_book (T : Txt K mg) : FnOk P w K mg base CX0 4 T.d__law_loose_book.f T.d__law_loose_book.fd ["_law_jar", "_law_most", "_law_wide"] BkWSp := by
  refine T.d__law_loose_book.F.ok sc__law_loose_book ?len (fun cdv A outer s H vs Q E hr h => ?_)
  case len =>
    rintro vs H Q E ⟨j, wd, mo, rfl, _⟩
    rfl
  obtain ⟨j, mo, wd, rfl, hj, w1, w2, m1, m2, k⟩ := h
  refine ⟨_, (pss_one (ps_ret (pe_callTy (tupK (K := K)) (by rfl) T.b_tuple (by decide +kernel) (pa_cons (pe_lc (own := [("_law_i", 3)]) rfl sc__law_loose_book.nd (pi_range1 (by rfl) T.b_range (pa_cons (pe_op op_add pe_int (pe_call (ok__law_take (P := P) (w := w) T) (hr.mono (by decide)) (by rfl) T.d__law_take.g T.d__law_take.F.kp T.d__law_take.b .nil pass0 (pa_cons (pv 0) (pa_cons (pv 1) pa_nil)))) pa_nil)) (blkOk_by (own := [("_law_i", 3)]) (N := ["_law_jar", "_law_most", "_law_wide", "_law_i"]) (sc := defScope st__law_loose_book) (by decide +kernel)) (fun _ _ _ _ _ => (pg_name (i := 3) sc__law_loose_book.nd rfl (by first | exact Or.inl rfl | exact Or.inr rfl))) (fun _ _ _ _ _ => pts_nil) (fun _ _ _ _ _ => (pe_call (ok__law_scheme (P := P) (w := w) T) (hr.mono (by decide)) (by rfl) T.d__law_scheme.g T.d__law_scheme.F.kp T.d__law_scheme.b .nil pass0 (pa_cons (pv 0) (pa_cons (pv 2) (pa_cons pe_int pa_nil)))))) pa_nil)))), ?_⟩
  refine r_cb1 ?_
  refine ej_lcV (K := K) (j := j) (P := SchV (SchP wd 3)) (C := fun ds => ∃ n, (1 ≤ n ∧ n ≤ mo) ∧ ds = rgD n) (eij_rng (fun n h => by omega) ?rng) (fun ds h => by obtain ⟨n, h, rfl⟩ := h; rw [rgD_len]; omega) (fun _ => rfl) (fun x H1 H2 f p => p.fk f) (fun ds i d x H1 c hd jx ja px Q q => ?_) (fun ds l xs H2 c hl jx ja h2 hlen hP => ?_)
  case rng =>
    refine fun Q q => ej_take (K := K) rfl hj (eds_cons (ed_var rfl (.int _)) eds_nil) m1 (by omega) fun d H3 hd jx3 ja3 => ⟨1, d, rfl, rfl, ?_⟩
    have e : (1 + (d : Int)) = ((1 + d : Nat) : Int) := by omega
    show Q (.int (1 + (d : Int))) H3
    rw [e]
    exact q _ _ jx3 ja3 ⟨by omega, by omega⟩
  · exact ⟨_, rfl, _, rfl, j, wd, 3, rfl, ja, w1, w2, by omega, by omega, fun l ns H' jx2 ja2 hs hp => q _ _ jx2 ja2 ⟨l, ns, rfl, hs, hp⟩⟩
  · obtain ⟨n, ⟨n1, n2⟩, rfl⟩ := c
    rw [rgD_len] at hlen
    refine ⟨l, xs, rfl, .inl ⟨sq_of h2, fun a ha => ?_⟩⟩
    obtain ⟨B, b1, b2, b3⟩ := bkn_of (a := a) (H := upd H2 a (.tup xs)) (fun v hv => (hP v hv).fk (FK.new ha)) (.inl upd_same)
    exact k _ B _ (jx.trans (Jx.of (Ex.new ha))) (ja.ex (Ex.new ha)) b1 ⟨by omega, by omega, fun s hs => (b3 s hs).mono w2 (by omega)⟩
end
end BB
/-! L13: hung books. -/
namespace BB
open PySem L2 Evl LamX
section
variable {P : Program} {w : World} {K : PySem.W.Frag} {mg : Str → Option Value} {base : Heap}
theorem sc__law_hung_book : FnScope ["_law_jar", "_law_most", "_law_wide", "_law_found", "_law_i", "_law_link"] ["_law_jar", "_law_most", "_law_wide"] (defScope st__law_hung_book) := ⟨rfl, rfl, rfl, by decide +kernel, rfl, by decide +kernel, by decide +kernel⟩
theorem ok__law_hung_book (T : Txt K mg) : FnOk P w K mg base CX0 4 T.d__law_hung_book.f T.d__law_hung_book.fd ["_law_jar", "_law_most", "_law_wide"] BkWSp := by
  refine T.d__law_hung_book.F.ok sc__law_hung_book ?len (fun cdv A outer s H vs Q E hr h => ?_)
  case len =>
    rintro vs H Q E ⟨j, wd, mo, rfl, _⟩
    rfl
  obtain ⟨j, mo, wd, rfl, hj, w1, w2, m1, m2, k⟩ := h
  refine ⟨_, (pss_cons (ps_set (i := 3) sc__law_hung_book.nd rfl (by first | exact Or.inl rfl | exact Or.inr rfl) (pe_lst (pa_cons (pe_call (ok__law_scheme (P := P) (w := w) T) (hr.mono (by decide)) (by rfl) T.d__law_scheme.g T.d__law_scheme.F.kp T.d__law_scheme.b .nil pass0 (pa_cons (pv 0) (pa_cons (pv 2) (pa_cons pe_int pa_nil)))) pa_nil)))
      (pss_cons (ps_for PassesOwn.never rfl (pi_range1 (by rfl) T.b_range (pa_cons (pe_call (ok__law_take (P := P) (w := w) T) (hr.mono (by decide)) (by rfl) T.d__law_take.g T.d__law_take.F.kp T.d__law_take.b .nil pass0 (pa_cons (pv 0) (pa_cons (pv 1) pa_nil))) pa_nil)) (pg_name (i := 4) sc__law_hung_book.nd rfl (by first | exact Or.inl rfl | exact Or.inr rfl))
      (pss_cons (ps_set (i := 5) sc__law_hung_book.nd rfl (by first | exact Or.inl rfl | exact Or.inr rfl) (pe_call (ok__law_one (P := P) (w := w) T) (hr.mono (by decide)) (by rfl) T.d__law_one.g T.d__law_one.F.kp T.d__law_one.b .nil pass0 (pa_cons (pv 0) (pa_cons (pe_call (ok__law_one (P := P) (w := w) T) (hr.mono (by decide)) (by rfl) T.d__law_one.g T.d__law_one.F.kp T.d__law_one.b .nil pass0 (pa_cons (pv 0) (pa_cons (pv 3) pa_nil))) pa_nil))))
        (pss_one (ps_expr (pe_bm PySem.F.plainAttrs_list PySem.F.slot_list_append PySem.F.type_list_append mt_append (pv 3) (pa_cons (pe_call (ok__law_rising (P := P) (w := w) T) (hr.mono (by decide)) (by rfl) T.d__law_rising.g T.d__law_rising.F.kp T.d__law_rising.b .nil pass0 (pa_cons (pe_lst (pa_cons (pe_lst (pa_cons (pv 5) pa_nil)) (pa_cons (pe_call (ok__law_scheme (P := P) (w := w) T) (hr.mono (by decide)) (by rfl) T.d__law_scheme.g T.d__law_scheme.F.kp T.d__law_scheme.b .nil pass0 (pa_cons (pv 0) (pa_cons (pv 2) (pa_cons pe_int pa_nil)))) pa_nil))) pa_nil)) pa_nil))))))
      (pss_one (ps_ret (pe_callTy (tupK (K := K)) (by rfl) T.b_tuple (by decide +kernel) (pa_cons (pv 3) pa_nil)))))), ?_⟩
  refine q_asgR ⟨_, rfl, _, rfl, j, wd, 3, rfl, hj, w1, w2, by omega, by omega, fun p0 s0 H1 jx1 ja1 hs0 hp0 => ⟨by show 1 ≤ sizeLine; exact sz_of (by decide), fun m hm => ?_⟩⟩
  have hmn : H m = none := jx1.back ja1 hm
  have hmj := ja1.ne hm
  refine q_forJ (K := K) (j := j) (C := fun ds => ∃ n, (0 ≤ n ∧ n < mo) ∧ ds = rgD n) (eij_rng (fun n h => by omega) ?rng) (fun ds H2 i σ' H' => ∃ v u, σ' = [some (.ref j), some (.int (mo : Int)), some (.int (wd : Int)), some (.ref m), v, u] ∧ Jx j H H' ∧ JarAt H' j ∧ TK H2 H' ∧ ∃ xs, H' m = some (.lst xs) ∧ xs.length = 1 + i ∧ ∀ v ∈ xs, SchV (SchP wd 8) v H')
    (fun ds H2 c jx ja => ?_) (fun ds H2 i σ' H' c ja p => by obtain ⟨_, _, _, _, _, p, _⟩ := p; exact p) (fun ds H2 i d x σ' H' H'' c jx ja hd p ey px => ?_) (fun ds H2 σ' H' c jx ja p => ?_)
  case rng =>
    exact fun Q q => ej_take (K := K) rfl (ja1.updn hmj) (eds_cons (ed_var rfl (.int _)) eds_nil) m1 (by omega) fun d H3 hd jx3 ja3 => q d H3 jx3 ja3 ⟨by omega, hd⟩
  · have f : FK H1 H2 := (FK.new hm).trans (jx.fk (ja1.updn hmj))
    refine ⟨_, _, rfl, (jx1.updn hmn).trans jx, ja, fun _ _ h => h, [.ref p0], jx m _ hmj upd_same, rfl, fun v hv => ?_⟩
    rw [List.mem_singleton.mp hv]
    exact ⟨p0, s0, rfl, hs0.fk f, hp0.mono (Nat.le_refl _) (by omega)⟩
  · obtain ⟨n, ⟨n1, n2⟩, rfl⟩ := c
    have hin := (List.getElem?_eq_some_iff.mp hd).1
    rw [rgD_len] at hin
    obtain ⟨v, u, rfl, p1, p2, p3, xs, p4, p5, p6⟩ := p
    have ja' := p2.ex ey
    have hm' := ey _ _ p4
    refine q_asgR ⟨_, rfl, _, rfl, _, rfl, j, m, xs, rfl, ja', .inl (sq_of hm'), hmj, by omega, by omega, fun d0 y H3 hy jx3 ja3 => ?_⟩
    obtain ⟨q0, s1, rfl, hs1, hp1⟩ := (p6 y (List.mem_of_getElem? hy)).fk ((FK.of_ex ey).trans (jx3.fk ja'))
    have hl1 := hp1.2.2.1
    have hl2 := hp1.2.2.2
    refine ⟨j, q0, s1.map V.int, rfl, ja3, .inr hs1.sq, hs1.nej ja3, by rw [List.length_map]; omega, by rw [List.length_map]; omega, fun d1 z H4 hz jx4 ja4 => ?_⟩
    obtain ⟨c, hc, rfl⟩ := List.mem_map.mp (List.mem_of_getElem? hz)
    have hm4 := jx4 m _ hmj (jx3 m _ hmj hm')
    refine ⟨_, rfl, Or.inl ⟨rfl, xs, sq_of hm4⟩, ?_⟩
    refine ⟨_, rfl, by show 1 ≤ sizeLine; exact sz_of (by decide), fun q1 hq1 => ?_⟩
    have hq1j := ja4.ne hq1
    refine ⟨_, rfl, _, rfl, j, wd, 2, rfl, ja4.updn hq1j, w1, w2, by omega, by omega, fun q2 s2 H5 jx5 ja5 hs2 hp2 => ?_⟩
    have hq15 := jx5 q1 _ hq1j upd_same
    refine ⟨by show 2 ≤ sizeLine; exact sz_of (by decide), fun q3 hq3 => ?_⟩
    have e5 := Ex.new (o := .lst [.ref q1, .ref q2]) hq3
    refine ⟨.ref q3, [(true, [c]), (false, s2)], rfl, .lst (.inl (.inl upd_same)) (.cons (.lst (.inl (.inl (e5 _ _ hq15))) (.cons (.int c) .nil)) (.cons (Dp.ex (hs2.dp (K := K)) e5) .nil)), by show 2 ≤ 1000; omega, ?_, fun l H6 hl e6 hs6 => ?_⟩
    · have := hp2.2.2.2
      show [c].length + (s2.length + 0) ≤ 1000
      rw [List.length_singleton]
      omega
    have hmm : m ≠ q1 := fun z => by rw [← z, hm4] at hq1; cases hq1
    have hm6 := e6 _ _ (e5 _ _ (jx5 m _ hmj (by rw [upd_ne hmm]; exact hm4)))
    refine ⟨m, xs, .ref l, rfl, rfl, hm6, sz_lt (by omega), ?_⟩
    have jxA : Jx j H'' H6 := (jx3.trans jx4).trans (((Jx.of (Ex.new hq1)).trans jx5).trans ((Jx.of e5).trans (Jx.of e6)))
    have jaA : JarAt H6 j := (ja5.ex e5).ex e6
    have fA : FK H' H6 := (FK.of_ex ey).trans (jxA.fk ja')
    have fB := FK.upd_lst (o := .lst (xs ++ [.ref l])) hm6
    refine ⟨_, _, rfl, (p1.trans ((Jx.of ey).trans jxA)).updn hmn, jaA.updn hmj, p3.trans (fA.trans fB).1, xs ++ [.ref l], upd_same, by rw [List.length_append, p5]; simp; omega, fun v hv => ?_⟩
    rcases List.mem_append.mp hv with h | h
    · exact (p6 v h).fk (fA.trans fB)
    · rw [List.mem_singleton.mp h]
      have ok := risA_ok (Ls := [(true, [c]), (false, s2)]) (fun L hL => by
        rcases List.mem_cons.mp hL with rfl | hL
        · exact List.nodup_cons.mpr ⟨by simp, List.nodup_nil⟩
        · rw [List.mem_singleton.mp hL]
          exact hp2.1.imp fun h => by show _ ≠ _; omega)
      have hlen := risA_len (Ls := [(true, [c]), (false, s2)])
      have hsum : sumL [(true, [c]), (false, s2)] = 1 + (s2.length + 0) := rfl
      have := hp2.2.2.2
      refine ⟨l, _, rfl, hs6.fk fB, srt_sch ok.1 (fun x hx => ?_) ?_ (by omega)⟩
      · obtain ⟨L, hL, hx⟩ := (ok.2 x).mp hx
        rcases List.mem_cons.mp hL with rfl | hL
        · rw [List.mem_singleton.mp hx]; exact hp1.2.1 c hc
        · rw [List.mem_singleton.mp hL] at hx; exact hp2.2.1 x hx
      · have : c ∈ risA [(true, [c]), (false, s2)] := (ok.2 c).mpr ⟨_, List.mem_cons_self, List.mem_cons_self⟩
        exact List.length_pos_of_mem this
  · obtain ⟨n, ⟨n1, n2⟩, rfl⟩ := c
    rw [rgD_len] at p
    obtain ⟨v, u, rfl, p1, p2, p3, xs, p4, p5, p6⟩ := p
    refine r_cb1 ⟨_, rfl, m, xs, rfl, .inl ⟨sq_of p4, fun a ha => ?_⟩⟩
    obtain ⟨B, b1, b2, b3⟩ := bkn_of (a := a) (H := upd H' a (.tup xs)) (fun v hv => (p6 v hv).fk (FK.new ha)) (.inl upd_same)
    exact k _ B _ (p1.trans (Jx.of (Ex.new ha))) (p2.ex (Ex.new ha)) b1 ⟨by omega, by omega, fun s hs => (b3 s hs).mono w2 (by omega)⟩
end
end BB
/-! L14: data. -/
namespace BB
open PySem L2 Evl LamX
/-- the def that draws data for a book -/
def DataSp (K : PySem.W.Frag) : Sp := fun vs H Q _ => ∃ (j : Addr) (v : V) (B : List (List Int)) (high : Nat), vs = [.ref j, v, .int (high : Int), .int 3] ∧ JarAt H j ∧ BkN H v B ∧ BookR B ∧ high ≤ 3 ∧ ∀ v' R H', Jx j H H' → JarAt H' j → Dp K H' v' (dataD R) → DataG B R → Q v' H'
/-- rows for a scheme -/
def RowsOk (s : List Int) (rs : List (List Int)) : Prop := (∀ r ∈ rs, rowB s r = true) ∧ rs.Nodup ∧ rs.length ≤ 3
theorem smallV {K : PySem.W.Frag} {H : Hp} {n : Nat} : ∀ {xs : List V}, (∀ y ∈ xs, ∃ d : Nat, d < n ∧ y = .int (d : Int)) → ∃ r : List Int, xs = r.map V.int ∧ ∀ c ∈ r, 0 ≤ c ∧ c < (n : Int)
  | [], _ => ⟨[], rfl, fun _ h => nomatch h⟩
  | x :: xs, h => by
    obtain ⟨d, hd, rfl⟩ := h x List.mem_cons_self
    obtain ⟨r, rfl, hr⟩ := smallV (K := K) (H := H) (xs := xs) fun y hy => h y (List.mem_cons_of_mem _ hy)
    refine ⟨(d : Int) :: r, rfl, fun c hc => ?_⟩
    rcases List.mem_cons.mp hc with rfl | hc
    · omega
    · exact hr c hc
section
variable {P : Program} {w : World} {K : PySem.W.Frag} {mg : Str → Option Value} {base : Heap}
theorem sc__law_data : FnScope ["_law_jar", "_law_book", "_law_high", "_law_few", "_law_found", "_law_scheme_here", "_law_rows", "_law_place", "_law_row", "_law_c"] ["_law_jar", "_law_book", "_law_high", "_law_few"] (defScope st__law_data) := ⟨rfl, rfl, rfl, by decide +kernel, rfl, by decide +kernel, by decide +kernel⟩
theorem ok__law_data (T : Txt K mg) : FnOk P w K mg base CX0 2 T.d__law_data.f T.d__law_data.fd ["_law_jar", "_law_book", "_law_high", "_law_few"] (DataSp K) := by
  refine T.d__law_data.F.ok sc__law_data ?len (fun cdv A outer s H vs Q E hr h => ?_)
  case len =>
    rintro vs H Q E ⟨j, wd, mo, x, rfl, _⟩
    rfl
  obtain ⟨j, bv, B, high, rfl, hj, hb, hR, hh, k⟩ := h
  refine ⟨_, (pss_cons (ps_set (i := 4) sc__law_data.nd rfl (by first | exact Or.inl rfl | exact Or.inr rfl) (pe_lst pa_nil))
      (pss_cons (ps_for PassesOwn.never rfl (piTK (K := K) (pv 1)) (pg_name (i := 5) sc__law_data.nd rfl (by first | exact Or.inl rfl | exact Or.inr rfl))
      (pss_cons (ps_set (i := 6) sc__law_data.nd rfl (by first | exact Or.inl rfl | exact Or.inr rfl) (pe_lst pa_nil))
        (pss_cons (ps_for PassesOwn.never rfl (pi_range1 (by rfl) T.b_range (pa_cons (pe_call (ok__law_take (P := P) (w := w) T) (hr.mono (by decide)) (by rfl) T.d__law_take.g T.d__law_take.F.kp T.d__law_take.b .nil pass0 (pa_cons (pv 0) (pa_cons (pe_op op_add (pv 2) pe_int) pa_nil))) pa_nil)) (pg_name (i := 7) sc__law_data.nd rfl (by first | exact Or.inl rfl | exact Or.inr rfl))
        (pss_cons (ps_set (i := 8) sc__law_data.nd rfl (by first | exact Or.inl rfl | exact Or.inr rfl) (pe_callTy (tupK (K := K)) (by rfl) T.b_tuple (by decide +kernel) (pa_cons (pe_lc (own := [("_law_c", 9)]) rfl sc__law_data.nd (piTK (K := K) (pv 5)) (blkOk_by (own := [("_law_c", 9)]) (N := ["_law_jar", "_law_book", "_law_high", "_law_few", "_law_found", "_law_scheme_here", "_law_rows", "_law_place", "_law_row", "_law_c"]) (sc := defScope st__law_data) (by decide +kernel)) (fun _ _ _ _ _ => (pg_name (i := 9) sc__law_data.nd rfl (by first | exact Or.inl rfl | exact Or.inr rfl))) (fun _ _ _ _ _ => pts_nil) (fun _ _ _ _ _ => (pe_call (ok__law_take (P := P) (w := w) T) (hr.mono (by decide)) (by rfl) T.d__law_take.g T.d__law_take.F.kp T.d__law_take.b .nil pass0 (pa_cons (pv 0) (pa_cons (pv 3) pa_nil))))) pa_nil)))
          (pss_one (ps_if (pt_cmpR (niDK (K := K) hr) (pv 8) (pv 6) (by rfl))
          (pss_one (ps_expr (pe_bm PySem.F.plainAttrs_list PySem.F.slot_list_append PySem.F.type_list_append mt_append (pv 6) (pa_cons (pv 8) pa_nil))))
          pss_nil))))
        (pss_one (ps_expr (pe_bm PySem.F.plainAttrs_list PySem.F.slot_list_append PySem.F.type_list_append mt_append (pv 4) (pa_cons (pe_callTy (tupK (K := K)) (by rfl) T.b_tuple (by decide +kernel) (pa_cons (pv 6) pa_nil)) pa_nil)))))))
      (pss_one (ps_ret (pe_callTy (tupK (K := K)) (by rfl) T.b_tuple (by decide +kernel) (pa_cons (pv 4) pa_nil)))))), ?_⟩
  refine q_asgR ⟨Nat.zero_le _, fun m hm => ?_⟩
  have hmj := hj.ne hm
  have hb1 := hb.ex (Ex.new (o := .lst []) hm)
  have hst : stayAll (B.map schD) = true := stayAll_map fun s _ => stay_sch s
  refine q_forJ (K := K) (j := j) (eij_of (hj.updn hmj) (ei_tupK (ds := B.map schD) (ed_var rfl hb1.dp) hst)) (fun ds H2 i σ' H' => ∃ x rw_ pl ro, σ' = [some (.ref j), some bv, some (.int (high : Int)), some (.int 3), some (.ref m), x, rw_, pl, ro, none] ∧ Jx j H H' ∧ JarAt H' j ∧ TK H2 H' ∧ ∃ R : List (List (List Int)), ML K H' m (R.map rowsD) ∧ R.length = i ∧ ∀ (n : Nat) rs, R[n]? = some rs → RowsOk (B.getD n []) rs)
    (fun ds H2 c jx ja => ?_) (fun ds H2 i σ' H' c ja p => by obtain ⟨_, _, _, _, _, _, _, p, _⟩ := p; exact p) (fun ds H2 i d x σ' H' H'' c jx ja hd p ey px => ?_) (fun ds H2 σ' H' c jx ja p => ?_)
  · exact ⟨_, _, _, _, rfl, (Jx.of (Ex.new hm)).trans jx, ja, fun _ _ h => h, [], ⟨[], jx m _ hmj upd_same, .nil⟩, rfl, fun n rs h => by simp at h⟩
  · subst c
    obtain ⟨s, hs, rfl⟩ := map_get hd
    have hil := (List.getElem?_eq_some_iff.mp hs).1
    have hsB := hR.2.2 s (List.mem_of_getElem? hs)
    obtain ⟨x0, rw_, pl, ro, rfl, p1, p2, p3, R, p4, p5, p6⟩ := p
    have ja' := p2.ex ey
    refine q_asgR ⟨Nat.zero_le _, fun b hb0 => ?_⟩
    have hbj := ja'.ne hb0
    have ml' := p4.ex ey
    have hmb : m ≠ b := ml'.ne hb0
    have jaB := ja'.updn (o := .lst []) hbj
    have pxB := Dp.ex px (Ex.new (o := .lst []) hb0)
    refine q_forJ (K := K) (j := j) (C := fun ds => ∃ n, (0 ≤ n ∧ n ≤ high) ∧ ds = rgD n) (eij_rng (fun n h => by omega) ?rng) (fun ds H3 i' σ' H' => ∃ pl ro, σ' = [some (.ref j), some bv, some (.int (high : Int)), some (.int 3), some (.ref m), some x, some (.ref b), pl, ro, none] ∧ Jx j H'' H' ∧ JarAt H' j ∧ TK H3 H' ∧ ML K H' m (R.map rowsD) ∧ ∃ rs : List (List Int), ML K H' b (rs.map schD) ∧ rs.length ≤ i' ∧ rs.Nodup ∧ ∀ r ∈ rs, rowB s r = true)
      (fun ds H3 c jx3 ja3 => ?_) (fun ds H2 i σ' H' c ja p => by obtain ⟨_, _, _, _, _, p, _⟩ := p; exact p) (fun ds H3 i' d' x' σ' H4 H5 c jx3 ja3 hd' p ey5 px5 => ?_) (fun ds H3 σ' H4 c jx3 ja3 p => ?_)
    case rng =>
      refine fun Q q => ej_take (K := K) rfl jaB (eds_cons (ed_op (ed_var rfl (.int _)) ed_int rd_add) eds_nil) (top := high + 1) (by omega) (by omega) fun d H3 hd jx3 ja3 => q d H3 jx3 ja3 ⟨by omega, by omega⟩
    · have e := Ex.new (o := .lst []) hb0
      have hb3 := jx3 b _ hbj (upd_same (H := H'') (a := b) (o := .lst []))
      obtain ⟨ys, y1, y2⟩ := ml'
      have f := ((FK.of_ex e).trans (jx3.fk jaB)).1
      exact ⟨_, _, rfl, (Jx.of e).trans jx3, ja3, fun _ _ h => h, ⟨ys, jx3 m _ hmj (e _ _ y1), dpa_tk f _ _ (stayAll_map fun r _ => stay_tupled _ (tupled_rows r)) y2⟩, [], ⟨[], hb3, .nil⟩, Nat.zero_le _, List.nodup_nil, fun _ h => nomatch h⟩
    · obtain ⟨n, ⟨n1, n2⟩, rfl⟩ := c
      have hin := (List.getElem?_eq_some_iff.mp hd').1
      rw [rgD_len] at hin
      obtain ⟨pl, ro, rfl, q1, q2, q3, q4, rs, q5, q6, q7, q8⟩ := p
      have q2' := q2.ex ey5
      have q1' := q1.trans (Jx.of ey5)
      have px6 := dp_tk (q1'.fk ja').1 _ _ (stay_sch s) px
      refine q_asgR (cb1 ?_)
      refine ej_lcV (K := K) (j := j) (P := fun y _ => ∃ d : Nat, d < 3 ∧ y = .int (d : Int)) (eij_of q2' (ei_tupK (ds := s.map PyData.int) (ed_var rfl px6) (stay_ints s))) (fun ds h => by subst h; rw [List.length_map]; have := hsB.2.2.2; omega) (fun _ => rfl) (fun x H1 H2 f p => p)
        (fun ds i d x H6 c hd jx ja px Q q => ej_take (K := K) (top := 3) rfl ja (eds_cons (ed_var rfl (.int _)) eds_nil) (by omega) (by omega) fun d H3 hd jx3 ja3 => q _ _ jx3 ja3 ⟨d, hd, rfl⟩) (fun ds l xs H6 c hl jx6 ja6 h6 hlen hP => ?_)
      subst c
      rw [List.length_map] at hlen
      obtain ⟨r, rfl, hr3⟩ := smallV (K := K) (H := H6) hP
      rw [List.length_map] at hlen
      refine ⟨l, _, rfl, .inl ⟨sq_of h6, fun t ht => ?_⟩⟩
      have e7 := Ex.new (o := .tup (r.map V.int)) ht
      have hlm : l ≠ j := q2'.ne hl
      have f7 := ((jx6.fk q2').trans (FK.of_ex e7)).1
      have mlb : ML K (upd H6 t (.tup (r.map V.int))) b (rs.map schD) := by
        obtain ⟨ys, y1, y2⟩ := q5
        exact ⟨ys, e7 _ _ (jx6 b _ hbj (ey5 _ _ y1)), dpa_tk f7 _ _ (stayAll_map fun r _ => stay_sch r) (y2.ex ey5)⟩
      have mlm : ML K (upd H6 t (.tup (r.map V.int))) m (R.map rowsD) := by
        obtain ⟨ys, y1, y2⟩ := q4
        exact ⟨ys, e7 _ _ (jx6 m _ hmj (ey5 _ _ y1)), dpa_tk f7 _ _ (stayAll_map fun r _ => stay_tupled _ (tupled_rows r)) (y2.ex ey5)⟩
      have pr : Dp K (upd H6 t (.tup (r.map V.int))) (.ref t) (schD r) := .tup (.inl (.inl upd_same)) (ints_dpa r)
      have jxA : Jx j H'' (upd H6 t (.tup (r.map V.int))) := (q1'.trans jx6).trans (Jx.of e7)
      have jaA := ja6.ex e7
      have tkA : TK H3 (upd H6 t (.tup (r.map V.int))) := q3.trans ((TK.of_ex ey5).trans f7)
      have hrow : rowB s r = true := by
        unfold rowB
        rw [Bool.and_eq_true, decide_eq_true_eq, List.all_eq_true]
        refine ⟨hlen, fun c hc => ?_⟩
        have := hr3 c hc
        unfold worthB
        rw [Bool.and_eq_true, decide_eq_true_eq, decide_eq_true_eq]
        omega
      have shL : SeqAt.shaped (.list (rs.map schD)) = true := by
        show (PyData.canLay0 (.list (rs.map schD)) && decide ((PyData.list (rs.map schD)).depth ≤ 64)) = true
        rw [Bool.and_eq_true]
        refine ⟨?_, decide_eq_true ?_⟩
        · have := layAll_tupled (rs.map schD) (tupledAll_iff.mpr fun d hd => by
            obtain ⟨r, _, rfl⟩ := List.mem_map.mp hd
            exact tupled_sch r)
          simpa [PyData.canLay0] using this
        · have := depth_lst (n := 1) (ds := rs.map schD) fun d hd => by
            obtain ⟨r, _, rfl⟩ := List.mem_map.mp hd
            exact depth_ints r
          omega
      refine s_ifD (et_B (ed_op (ed_var rfl pr) (mlb.ed rfl) (rd_niD (shaped_ints r) shL))) (fun hx H8 e8 => ?_) (fun hx H8 e8 => ?_)
      · have hnr : r ∉ rs := fun hc => by
          rw [Bool.not_eq_true', List.any_eq_false] at hx
          have := hx (schD r) (List.mem_map.mpr ⟨r, hc, rfl⟩)
          exact this ((eqv_tupled _ _ (tupled_sch r) (tupled_sch r)).mpr rfl)
        refine s_appD (mlb.ex e8) rfl (stayAll_map fun r _ => stay_sch r) (ed_var rfl (pr.ex e8)) (stay_sch r) (by rw [List.length_map]; omega) (fun H9 st ml => ?_)
        have jx9 : Jx j H'' H9 := by
          obtain ⟨Ha, xa, ya, ea, ha, rfl⟩ := st
          exact (jxA.trans ((Jx.of e8).trans (Jx.of ea))).updn hb0
        have ja9 : JarAt H9 j := by
          obtain ⟨Ha, xa, ya, ea, ha, rfl⟩ := st
          exact ((jaA.ex e8).ex ea).updn hbj
        refine ⟨_, _, rfl, jx9, ja9, tkA.trans ((TK.of_ex e8).trans st.tk), st.ml hmb (mlm.ex e8) (stayAll_map fun r _ => stay_tupled _ (tupled_rows r)), rs ++ [r], by rw [List.map_append]; exact ml, by rw [List.length_append]; simp; omega, List.nodup_append.mpr ⟨q7, by simp, fun a ha b hb e => ?_⟩, fun r' hr' => ?_⟩
        · rw [List.mem_singleton.mp hb] at e
          exact hnr (e ▸ ha)
        · rcases List.mem_append.mp hr' with h | h
          · exact q8 r' h
          · rw [List.mem_singleton.mp h]; exact hrow
      · exact ⟨_, _, rfl, jxA.trans (Jx.of e8), jaA.ex e8, tkA.trans (TK.of_ex e8), mlm.ex e8, rs, mlb.ex e8, by omega, q7, q8⟩
    · obtain ⟨n, ⟨n1, n2⟩, rfl⟩ := c
      rw [rgD_len] at p
      obtain ⟨pl, ro, rfl, q1, q2, q3, q4, rs, q5, q6, q7, q8⟩ := p
      have hRl : R.length ≤ 4 := by
        have := hR.2.1
        omega
      refine s_appD q4 rfl (stayAll_map fun r _ => stay_tupled _ (tupled_rows r)) (d := rowsD rs) (ed_cb (eds_cons (q5.ed rfl) eds_nil) rcd_tuple) (stay_tupled _ (tupled_rows rs)) (by rw [List.length_map]; omega) (fun H9 st ml => ?_)
      have hmH : H m = none := hm
      have jx9 : Jx j H H9 := by
        obtain ⟨Ha, xa, ya, ea, ha, rfl⟩ := st
        exact ((p1.trans (Jx.of ey)).trans (q1.trans (Jx.of ea))).updn hmH
      have ja9 : JarAt H9 j := by
        obtain ⟨Ha, xa, ya, ea, ha, rfl⟩ := st
        exact (q2.ex ea).updn hmj
      have tk9 : TK H2 H9 := p3.trans (((TK.of_ex ey).trans (q1.fk ja').1).trans st.tk)
      refine ⟨_, _, _, _, rfl, jx9, ja9, tk9, R ++ [rs], by rw [List.map_append]; exact ml, by rw [List.length_append, p5]; rfl, fun n' rs' hn' => ?_⟩
      by_cases hlt : n' < R.length
      · rw [List.getElem?_append_left hlt] at hn'
        exact p6 n' rs' hn'
      · have := (List.getElem?_eq_some_iff.mp hn').1
        rw [List.length_append, List.length_singleton] at this
        have hne : n' = R.length := by omega
        subst hne
        rw [List.getElem?_append_right (Nat.le_refl _), Nat.sub_self] at hn'
        have hn' : some rs = some rs' := hn'
        cases hn'
        rw [p5, List.getD_eq_getElem?_getD, hs]
        exact ⟨q8, q7, by omega⟩
  · subst c
    rw [List.length_map] at p
    obtain ⟨x0, rw_, pl, ro, rfl, p1, p2, p3, R, p4, p5, p6⟩ := p
    refine s_retD (d := dataD R) (ed_cb (eds_cons (p4.ed rfl) eds_nil) rcd_tuple) (fun v H1 e p => k v R H1 (p1.trans (Jx.of e)) (p2.ex e) p ?_)
    refine ⟨hR.book, hR.2.1, p5, fun n rs hn => (p6 n rs hn).1, fun rs hrs => ?_, fun rs hrs => ?_⟩
    · obtain ⟨n, hn⟩ := List.getElem?_of_mem hrs
      exact (p6 n rs hn).2.1
    · obtain ⟨n, hn⟩ := List.getElem?_of_mem hrs
      exact (p6 n rs hn).2.2
end
end BB
/-! L15: ring books. -/
namespace BB
open PySem L2 Evl LamX
/-- lists of columns, one to m -/
def GoodL (m : Nat) (ns : List Int) : Prop := (∀ c ∈ ns, 0 ≤ c ∧ c < 24) ∧ 1 ≤ ns.length ∧ ns.length ≤ m
theorem lc_src {K : PySem.W.Frag} {tl : TE} {g : TG} {tt : TT} {te : TE} {vs : List Nat} {σ : L2.St} {H : Hp} {Q : VK} (h : tl σ H fun x H1 => tLc (iList K (tC x)) g tt te vs σ H1 Q) : tLc (iList K tl) g tt te vs σ H Q := h
theorem ed_c {K : PySem.W.Frag} {σ : L2.St} {H : Hp} {v : V} {d : PyData} (p : Dp K H v d) : ED K (tC v) σ H d := fun H1 e Q q => q v H1 (Ex.refl _) (p.ex e)
theorem rd_mod {K : PySem.W.Frag} {i j : Int} (h : 0 < j) : RD K (rI (fun _ j => 0 < j) fun i j => .int (i % j)) (.int i) (.int j) (.int (i % j)) := fun H x y px py Q q => ⟨i, j, dp_int px, dp_int py, h, q _ H (Ex.refl _) (.int _)⟩
theorem rcd_int {K : PySem.W.Frag} {i : Int} : RCD K (fun xs H Q => (∃ i, xs = [.int i] ∧ Q (.int i) H) ∨ ∃ k, xs = [.bl k] ∧ Q (.int (if k then 1 else 0)) H) [.int i] (.int i) := fun H vs p Q q => by
  obtain ⟨x, rfl, px⟩ := dpa1 p
  cases dp_int px
  exact .inl ⟨i, rfl, q _ H (Ex.refl _) (.int _)⟩
section
variable {P : Program} {w : World} {K : PySem.W.Frag} {mg : Str → Option Value} {base : Heap}
/-- whether a draw is 0 -/
theorem ej_test0 {σ : L2.St} {H : Hp} {j : Addr} {E : XK} {tt : TA} {top i : Nat} (hs : σ[i]? = some (some (.ref j))) (hj : JarAt H j) (ht : EDs K tt σ H [.int (top : Int)]) (h1 : 1 ≤ top) (h2 : top ≤ 1000) {Q : Bool → Hp → Prop} (q : ∀ b H', Jx j H H' → JarAt H' j → Q b H') :
    tTest (tOp rEq (tCall TakeSp [] E (tCons (tVar i) tt)) (tC (.int 0))) σ H Q := by
  refine ej_take (K := K) hs hj ht h1 h2 fun d H' hd jx ja => ?_
  exact ⟨rfl, _, rfl, q _ H' jx ja⟩
/-- a list of lists of ints, made by a comprehension -/
theorem lc_listsI {σ : L2.St} {H : Hp} {te : TE} {α : Type} {xs : List α} {enc : α → PyData} {f : α → List Int} {vs : List Nat} {j : Nat} {wi : TI} (hi : EI K wi σ H Ex (xs.map enc)) (hz : xs.length ≤ 40000) (hw : ∀ x, wipe ((wipe σ vs).set j (some x)) vs = wipe σ vs)
    (he : ∀ d x H1, d ∈ xs → Ex H H1 → Dp K H1 x (enc d) → EL K te ((wipe σ vs).set j (some x)) H1 ((f d).map PyData.int)) {Q : VK} (q : ∀ v H2, Ex H H2 → Dp K H2 v (.list (xs.map fun a => .list ((f a).map PyData.int))) → Q v H2) :
    tLc wi (gName j) tYes te vs σ H Q := hi _ fun J H1 e1 wk Dl hD => by
  have hn : (xs.map enc).length = xs.length := List.length_map ..
  rw [hn] at wk
  refine lc_it wk (fun i H' => Ex H1 H' ∧ ∃ acc, H' Dl = some (.lst acc) ∧ acc.length = i ∧ ∀ (k : Nat) a, k < i → xs[k]? = some a → ∃ p, acc[k]? = some (.ref p) ∧ p ≠ Dl ∧ H' p = some (.lst ((f a).map V.int))) ⟨Ex.new hD, [], upd_same, rfl, fun k a h => absurd h (Nat.not_lt_zero k)⟩ (fun i H' _ p => p.1) ?_ ?_
  · rintro i x H' H'' hi' ⟨eH, acc, h1, h2, h3⟩ ⟨ey, d', hd', px⟩
    obtain ⟨d, hd, rfl⟩ := map_get hd'
    refine ⟨hw x, ?_⟩
    refine et_yes (σ := (wipe σ vs).set j (some x)) (H := H'') H'' (Ex.refl _) _ fun H3 e3 => ?_
    show te ((wipe σ vs).set j (some x)) H3 _
    refine he d x H'' (List.mem_of_getElem? hd) (e1.trans (eH.trans ey)) px H3 e3 _ fun p zs H4 hp e4 h4 d4 => ?_
    have hD4 : H4 Dl = some (.lst acc) := e4 _ _ (e3 _ _ (ey _ _ h1))
    have hpD : p ≠ Dl := fun z => by rw [z] at hp; rw [e3 _ _ (ey _ _ h1)] at hp; cases hp
    have hzs : zs = (f d).map V.int := by
      exact dpa_ints d4
    refine ⟨acc, hD4, sz_lt (by omega), Ex.mut (eH.trans (ey.trans (e3.trans e4))) hD, acc ++ [.ref p], upd_same, by rw [List.length_append, h2]; rfl, fun k a hk ha => ?_⟩
    by_cases hki : k = i
    · subst hki
      rw [hd] at ha; cases ha
      refine ⟨p, by rw [← h2, List.getElem?_append_right (Nat.le_refl _), Nat.sub_self]; rfl, hpD, ?_⟩
      rw [upd_ne hpD, h4, hzs]
    · obtain ⟨p', g1, g2, g3⟩ := h3 k a (by omega) ha
      refine ⟨p', by rw [List.getElem?_append_left (by omega)]; exact g1, g2, ?_⟩
      rw [upd_ne g2]
      exact e4 _ _ (e3 _ _ (ey _ _ g3))
  · rintro H' ⟨eH, acc, h1, h2, h3⟩
    refine q _ H' (e1.trans eH) (.lst (.inl (.inl h1)) (dpAll_of (by rw [h2, List.length_map]) fun k d hd => ?_))
    obtain ⟨a, ha, rfl⟩ := map_get hd
    obtain ⟨p, g1, g2, g3⟩ := h3 k a (List.getElem?_eq_some_iff.mp ha).1 ha
    refine ⟨_, g1, .lst (.inl (.inl g3)) ?_⟩
    exact ints_dpa _
/-- a list of lists of columns, made by a comprehension -/
theorem lc_good {σ : L2.St} {H : Hp} {te : TE} {ds : List PyData} {vs : List Nat} {v m : Nat} {wi : TI} (hi : EI K wi σ H Ex ds) (hz : ds.length ≤ 40000) (hw : ∀ x, wipe ((wipe σ vs).set v (some x)) vs = wipe σ vs)
    (he : ∀ (i : Nat) (d : PyData) (x : V) (H1 : Hp), ds[i]? = some d → Ex H H1 → Dp K H1 x d → ∃ ns, GoodL m ns ∧ EL K te ((wipe σ vs).set v (some x)) H1 (ns.map PyData.int)) {Q : VK}
    (q : ∀ (Dl : Addr) (acc : List V) (H2 : Hp), H Dl = none → Ex H H2 → H2 Dl = some (.lst acc) → acc.length = ds.length → (∀ y ∈ acc, ∃ (p : Addr) (ns : List Int), y = .ref p ∧ p ≠ Dl ∧ H p = none ∧ H2 p = some (.lst (ns.map V.int)) ∧ GoodL m ns) → Q (.ref Dl) H2) :
    tLc wi (gName v) tYes te vs σ H Q := hi _ fun J H1 e1 wk Dl hD => by
  refine lc_it wk (fun i H' => Ex H1 H' ∧ ∃ acc, H' Dl = some (.lst acc) ∧ acc.length = i ∧ ∀ y ∈ acc, ∃ (p : Addr) (ns : List Int), y = .ref p ∧ p ≠ Dl ∧ H p = none ∧ H' p = some (.lst (ns.map V.int)) ∧ GoodL m ns) ⟨Ex.new hD, [], upd_same, rfl, fun y h => nomatch h⟩ (fun i H' _ p => p.1) ?_ ?_
  · rintro i x H' H'' hi' ⟨eH, acc, h1, h2, h3⟩ ⟨ey, d, hd, px⟩
    refine ⟨hw x, ?_⟩
    obtain ⟨ns, hg, hel⟩ := he i d x H'' hd (e1.trans (eH.trans ey)) px
    show te ((wipe σ vs).set v (some x)) H'' _
    refine hel H'' (Ex.refl _) _ fun p zs H4 hp e4 h4 d4 => ?_
    have hD4 : H4 Dl = some (.lst acc) := e4 _ _ (ey _ _ h1)
    have hpD : p ≠ Dl := fun z => by rw [z] at hp; rw [ey _ _ h1] at hp; cases hp
    cases dpa_ints d4
    refine ⟨acc, hD4, sz_lt (by omega), Ex.mut (eH.trans (ey.trans e4)) hD, acc ++ [.ref p], upd_same, by rw [List.length_append, h2]; rfl, fun y hy => ?_⟩
    rcases List.mem_append.mp hy with hy | hy
    · obtain ⟨p', ns', rfl, g1, g2, g3, g4⟩ := h3 y hy
      exact ⟨p', ns', rfl, g1, g2, by rw [upd_ne g1]; exact e4 _ _ (ey _ _ g3), g4⟩
    · rw [List.mem_singleton.mp hy]
      exact ⟨p, ns, rfl, hpD, fresh_back (e1.trans (eH.trans ey)) hp, by rw [upd_ne hpD]; exact h4, hg⟩
  · rintro H' ⟨eH, acc, h1, h2, h3⟩
    exact q Dl acc H' (fresh_back e1 hD) (e1.trans eH) h1 h2 h3
/-- row.extend([c] if a draw is 0 else []) -/
theorem s_extIf {σ : L2.St} {H : Hp} {D : Ends} {j p : Addr} {ns : List Int} {te : TE} {c : Int} {E : XK} (hp : H p = some (.lst (ns.map V.int))) (hpj : p ≠ j) (hs0 : σ[0]? = some (some (.ref j))) (hs7 : σ[7]? = some (some (.ref p))) (hj : JarAt H j) (hz : ns.length ≤ 1000)
    (hc : 0 ≤ c ∧ c < 24) (he : ∀ H', Jx j H H' → ED K te σ H' (.int c))
    (k : ∀ H' ns', Jx j H H' → JarAt H' j → (∀ c ∈ ns', 0 ≤ c ∧ c < 24) → ns'.length ≤ 1 → D.nx σ (upd H' p (.lst ((ns ++ ns').map V.int)))) :
    tDrop (tBM K "list" rExtend (tVar 7) (tCons (tIf (tTest (tOp rEq (tCall TakeSp [] E (tCons (tVar 0) (tCons (tC (.int 3)) tNil))) (tC (.int 0)))) (tLst (tCons te tNil)) (tLst tNil)) tNil)) D σ H := by
  refine ⟨_, hs7, Or.inl ⟨rfl, _, sq_of hp⟩, ej_test0 (K := K) (top := 3) hs0 hj (eds_cons ed_int eds_nil) (by omega) (by omega) fun b H1 jx ja => ?_⟩
  have hp1 := jx p _ hpj hp
  cases b with
  | true =>
    rw [if_pos rfl]
    refine he H1 jx H1 (Ex.refl _) _ fun v H2 e2 pv => ⟨by show 1 ≤ sizeLine; exact sz_of (by decide), fun q hq => ?_⟩
    cases dp_int pv
    have e3 := Ex.new (o := .lst [.int c]) hq
    refine ⟨p, q, ns.map V.int, [.int c], rfl, rfl, e3 _ _ (e2 _ _ hp1), upd_same, by rw [List.length_map]; exact sz_of (by show ns.length + 1 ≤ 100000; omega), ?_⟩
    have e : ns.map V.int ++ [V.int c] = (ns ++ [c]).map V.int := by rw [List.map_append]; rfl
    rw [e]
    exact k _ [c] (jx.trans ((Jx.of e2).trans (Jx.of e3))) ((ja.ex e2).ex e3) (fun x hx => by rw [List.mem_singleton.mp hx]; exact hc) (Nat.le_refl _)
  | false =>
    rw [if_neg Bool.false_ne_true]
    refine ⟨Nat.zero_le _, fun q hq => ?_⟩
    have e3 := Ex.new (o := .lst []) hq
    refine ⟨p, q, ns.map V.int, [], rfl, rfl, e3 _ _ hp1, upd_same, by rw [List.length_map]; exact sz_of (by show ns.length + 0 ≤ 100000; omega), ?_⟩
    have e : ns.map V.int ++ [] = (ns ++ []).map V.int := by rw [List.append_nil, List.append_nil]
    rw [e]
    exact k _ [] (jx.trans (Jx.of e3)) (ja.ex e3) (fun x hx => nomatch hx) (Nat.zero_le _)
theorem q_extIf {σ : L2.St} {H : Hp} {D : Ends} {tz : TS} {j p : Addr} {ns : List Int} {te : TE} {c : Int} {E : XK} (hp : H p = some (.lst (ns.map V.int))) (hpj : p ≠ j) (hs0 : σ[0]? = some (some (.ref j))) (hs7 : σ[7]? = some (some (.ref p))) (hj : JarAt H j) (hz : ns.length ≤ 1000)
    (hc : 0 ≤ c ∧ c < 24) (he : ∀ H', Jx j H H' → ED K te σ H' (.int c))
    (k : ∀ H' ns', Jx j H H' → JarAt H' j → (∀ c ∈ ns', 0 ≤ c ∧ c < 24) → ns'.length ≤ 1 → tz D σ (upd H' p (.lst ((ns ++ ns').map V.int)))) :
    tSeq (tDrop (tBM K "list" rExtend (tVar 7) (tCons (tIf (tTest (tOp rEq (tCall TakeSp [] E (tCons (tVar 0) (tCons (tC (.int 3)) tNil))) (tC (.int 0)))) (tLst (tCons te tNil)) (tLst tNil)) tNil))) tz D σ H :=
  s_extIf (D := { D with nx := tz D }) hp hpj hs0 hs7 hj hz hc he k
theorem GoodL.mono {m m' : Nat} {ns : List Int} (h : GoodL m ns) (hm : m ≤ m') : GoodL m' ns := ⟨h.1, h.2.1, Nat.le_trans h.2.2 hm⟩
theorem GoodL.app {m : Nat} {ns ms : List Int} (h : GoodL m ns) (h1 : ∀ c ∈ ms, 0 ≤ c ∧ c < 24) (h2 : ms.length ≤ 1) : GoodL (m + 1) (ns ++ ms) := ⟨fun c hc => (List.mem_append.mp hc).elim (h.1 c) (h1 c), by rw [List.length_append]; have := h.2.1; omega, by rw [List.length_append]; have := h.2.2; omega⟩
theorem sumL_ones : ∀ ns : List Int, sumL (ns.map fun c => (true, [c])) = ns.length
  | [] => rfl
  | a :: ns => by
    have := sumL_ones ns
    show 1 + sumL (ns.map fun c => (true, [c])) = ns.length + 1
    omega
theorem goods {m : Nat} {H : Hp} : ∀ {xs : List V}, (∀ y ∈ xs, ∃ (p : Addr) (ns : List Int), y = .ref p ∧ H p = some (.lst (ns.map V.int)) ∧ GoodL m ns) → ∃ B : List (List Int), xs.length = B.length ∧ (∀ s ∈ B, GoodL m s) ∧ DpAll K H xs (B.map fun ns => .list (ns.map PyData.int))
  | [], _ => ⟨[], rfl, (fun s h => nomatch h), .nil⟩
  | x :: xs, h => by
    obtain ⟨p, s, rfl, h1, h2⟩ := h x List.mem_cons_self
    obtain ⟨B, b1, b2, b3⟩ := goods (xs := xs) fun v hv => h v (List.mem_cons_of_mem _ hv)
    refine ⟨s :: B, by simp [b1], fun t ht => ?_, .cons (.lst (.inl (.inl h1)) (ints_dpa s)) b3⟩
    rcases List.mem_cons.mp ht with rfl | ht
    · exact h2
    · exact b2 t ht
theorem call1 {σ : L2.St} {H : Hp} {sp : Sp} {E : XK} {te : TE} {Q : VK} (h : te σ H fun v H1 => sp [v] H1 Q E) : tCall sp [] E (tCons te tNil) σ H Q := h
theorem q_ifR {σ : L2.St} {H : Hp} {D : Ends} {c : TT} {t u tz : TS} (h : c σ H fun b H1 => if b = true then t { D with nx := tz D } σ H1 else u { D with nx := tz D } σ H1) : tSeq (tIfS c t u) tz D σ H := h
theorem sc__law_ring_book : FnScope ["_law_jar", "_law_most", "_law_size", "_law_ids", "_law_c", "_law_found", "_law_i", "_law_row"] ["_law_jar", "_law_most"] (defScope st__law_ring_book) := ⟨rfl, rfl, rfl, by decide +kernel, rfl, by decide +kernel, by decide +kernel⟩
def RingSp : Sp := fun vs H Q _ => ∃ (j : Addr), vs = [.ref j, .int 3] ∧ JarAt H j ∧ BookK j H Q
theorem ok__law_ring_book (T : Txt K mg) : FnOk P w K mg base CX0 3 T.d__law_ring_book.f T.d__law_ring_book.fd ["_law_jar", "_law_most"] RingSp := by
  refine T.d__law_ring_book.F.ok sc__law_ring_book ?len (fun cdv A outer s H vs Q E hr h => ?_)
  case len =>
    rintro vs H Q E ⟨j, rfl, _⟩
    rfl
  obtain ⟨j, rfl, hj, k⟩ := h
  refine ⟨_, (pss_cons (ps_set (i := 2) sc__law_ring_book.nd rfl (by first | exact Or.inl rfl | exact Or.inr rfl) (pe_op op_add pe_int (pe_call (ok__law_take (P := P) (w := w) T) (hr.mono (by decide)) (by rfl) T.d__law_take.g T.d__law_take.F.kp T.d__law_take.b .nil pass0 (pa_cons (pv 0) (pa_cons (pe_op op_sub (pv 1) pe_int) pa_nil)))))
      (pss_cons (ps_set (i := 3) sc__law_ring_book.nd rfl (by first | exact Or.inl rfl | exact Or.inr rfl) (pe_call (ok__law_mixed (P := P) (w := w) T) (hr.mono (by decide)) (by rfl) T.d__law_mixed.g T.d__law_mixed.F.kp T.d__law_mixed.b .nil pass0 (pa_cons (pv 0) (pa_cons (pe_lc (own := [("_law_c", 4)]) rfl sc__law_ring_book.nd (pi_range1 (by rfl) T.b_range (pa_cons pe_int pa_nil)) (blkOk_by (own := [("_law_c", 4)]) (N := ["_law_jar", "_law_most", "_law_size", "_law_ids", "_law_c", "_law_found", "_law_i", "_law_row"]) (sc := defScope st__law_ring_book) (by decide +kernel)) (fun _ _ _ _ _ => (pg_name (i := 4) sc__law_ring_book.nd rfl (by first | exact Or.inl rfl | exact Or.inr rfl))) (fun _ _ _ _ _ => pts_nil) (fun _ _ _ _ _ => (pv 4))) pa_nil))))
      (pss_cons (ps_setLc (i := 5) (own := [("_law_i", 6)]) rfl sc__law_ring_book.nd rfl rfl (sw_true rfl rfl rfl (by decide +kernel)) (pi_range1 (by rfl) T.b_range (pa_cons (pv 2) pa_nil)) (blkOk_by (own := [("_law_i", 6)]) (N := ["_law_jar", "_law_most", "_law_size", "_law_ids", "_law_c", "_law_found", "_law_i", "_law_row"]) (sc := defScope st__law_ring_book) (by decide +kernel)) (fun _ _ _ _ _ => (pg_name (i := 6) sc__law_ring_book.nd rfl (by first | exact Or.inl rfl | exact Or.inr rfl))) (fun _ _ _ _ _ => pts_nil) (fun _ _ _ _ _ => (pe_lst (pa_cons (pe_ix (ixLK (K := K)) (pv 3) (pv 6) (fun _ _ => rfl)) (pa_cons (pe_ix (ixLK (K := K)) (pv 3) (pe_op op_mod (pe_callTy call_int1 (by rfl) T.b_int (by decide +kernel) (pa_cons (pe_op op_sub (pv 6) pe_int) pa_nil)) (pv 2)) (fun _ _ => rfl)) pa_nil)))))
      (pss_cons (ps_for PassesOwn.never rfl (pi_range1 (by rfl) T.b_range (pa_cons (pv 2) pa_nil)) (pg_name (i := 6) sc__law_ring_book.nd rfl (by first | exact Or.inl rfl | exact Or.inr rfl))
      (pss_cons (ps_set (i := 7) sc__law_ring_book.nd rfl (by first | exact Or.inl rfl | exact Or.inr rfl) (pe_ix (ixLK (K := K)) (pv 5) (pv 6) (fun _ _ => rfl)))
        (pss_cons (ps_expr (pe_bm PySem.F.plainAttrs_list PySem.F.slot_list_extend PySem.F.type_list_extend mt_extend (pv 7) (pa_cons (pe_ifExp (pt_cmpR op_eq (pe_call (ok__law_take (P := P) (w := w) T) (hr.mono (by decide)) (by rfl) T.d__law_take.g T.d__law_take.F.kp T.d__law_take.b .nil pass0 (pa_cons (pv 0) (pa_cons pe_int pa_nil))) pe_int (nomark _)) (pe_lst (pa_cons (pe_ix (ixLK (K := K)) (pv 3) (pe_op op_sub (pv 2) pe_int) (fun _ _ => rfl)) pa_nil)) (pe_lst pa_nil)) pa_nil)))
        (pss_one (ps_expr (pe_bm PySem.F.plainAttrs_list PySem.F.slot_list_extend PySem.F.type_list_extend mt_extend (pv 7) (pa_cons (pe_ifExp (pt_cmpR op_eq (pe_call (ok__law_take (P := P) (w := w) T) (hr.mono (by decide)) (by rfl) T.d__law_take.g T.d__law_take.F.kp T.d__law_take.b .nil pass0 (pa_cons (pv 0) (pa_cons pe_int pa_nil))) pe_int (nomark _)) (pe_lst (pa_cons (pe_ix (ixLK (K := K)) (pv 3) (pe_op op_add (pv 2) (pv 6)) (fun _ _ => rfl)) pa_nil)) (pe_lst pa_nil)) pa_nil)))))))
      (pss_cons (ps_if (pt_cmpR op_eq (pe_call (ok__law_take (P := P) (w := w) T) (hr.mono (by decide)) (by rfl) T.d__law_take.g T.d__law_take.F.kp T.d__law_take.b .nil pass0 (pa_cons (pv 0) (pa_cons pe_int pa_nil))) pe_int (nomark _))
      (pss_one (ps_expr (pe_bm PySem.F.plainAttrs_list PySem.F.slot_list_append PySem.F.type_list_append mt_append (pv 5) (pa_cons (pe_lst (pa_cons (pe_call (ok__law_one (P := P) (w := w) T) (hr.mono (by decide)) (by rfl) T.d__law_one.g T.d__law_one.F.kp T.d__law_one.b .nil pass0 (pa_cons (pv 0) (pa_cons (pe_slice (slLK (K := K)) (pv 3) po_none (po_some (pv 2))) pa_nil))) (pa_cons (pe_ix (ixLK (K := K)) (pv 3) pe_int (fun _ _ => rfl)) pa_nil))) pa_nil))))
      pss_nil)
      (pss_one (ps_ret (pe_callTy (tupK (K := K)) (by rfl) T.b_tuple (by decide +kernel) (pa_cons (pe_lc (own := [("_law_row", 7)]) rfl sc__law_ring_book.nd (piLK (K := K) (pe_call (ok__law_mixed (P := P) (w := w) T) (hr.mono (by decide)) (by rfl) T.d__law_mixed.g T.d__law_mixed.F.kp T.d__law_mixed.b .nil pass0 (pa_cons (pv 0) (pa_cons (pv 5) pa_nil)))) (blkOk_by (own := [("_law_row", 7)]) (N := ["_law_jar", "_law_most", "_law_size", "_law_ids", "_law_c", "_law_found", "_law_i", "_law_row"]) (sc := defScope st__law_ring_book) (by decide +kernel)) (fun _ _ _ _ _ => (pg_name (i := 7) sc__law_ring_book.nd rfl (by first | exact Or.inl rfl | exact Or.inr rfl))) (fun _ _ _ _ _ => pts_nil) (fun _ _ _ _ _ => (pe_call (ok__law_rising (P := P) (w := w) T) (hr.mono (by decide)) (by rfl) T.d__law_rising.g T.d__law_rising.F.kp T.d__law_rising.b .nil pass0 (pa_cons (pe_lc (own := [("_law_c", 4)]) rfl sc__law_ring_book.nd (piLK (K := K) (pv 7)) (blkOk_by (own := [("_law_c", 4)]) (N := ["_law_jar", "_law_most", "_law_size", "_law_ids", "_law_c", "_law_found", "_law_i", "_law_row"]) (sc := (relabel _ _)) (by rfl)) (fun _ _ _ _ _ => (pg_name (i := 4) sc__law_ring_book.nd rfl (by first | exact Or.inl rfl | exact Or.inr rfl))) (fun _ _ _ _ _ => pts_nil) (fun _ _ _ _ _ => (pe_lst (pa_cons (pv 4) pa_nil)))) pa_nil)))) pa_nil))))))))), ?_⟩
  refine q_asgR (ej_take (K := K) (top := 1) rfl hj (eds_cons (ed_op (ed_var rfl (.int _)) ed_int rd_sub) eds_nil) (by omega) (by omega) fun d H1 hd jx1 ja1 => ⟨3, d, rfl, rfl, ?_⟩)
  obtain rfl : d = 0 := by omega
  refine q_asgR ⟨_, rfl, el_rng (K := K) (n := 24) (eds_cons ed_int eds_nil) (by omega) (fun _ => rfl) (fun _ => rfl) H1 (Ex.refl _) _ fun p xs H2 hp e2 h2 d2 => ?_⟩
  have hx := dpa_ints d2
  subst hx
  refine ⟨j, p, _, rfl, ja1.ex e2, .inl (sq_of h2), by decide, fun a ys H3 ha hp3 h3 jx3 ja3 => ?_⟩
  obtain ⟨ms, rfl, hms⟩ := perm_ints hp3
  have hlen : ms.length = 24 := by rw [hms.length_eq]; rfl
  have hms24 : ∀ c ∈ ms, 0 ≤ c ∧ c < 24 := fun c hc => (rgI_ok 24).2 c |>.mp (hms.mem_iff.mp hc)
  have haj : a ≠ j := (ja1.ex e2).ne ha
  have haH : H a = none := jx1.back ja1 (fresh_back e2 ha)
  have jxA : Jx j H H3 := (jx1.trans (Jx.of e2)).trans jx3
  have hid : ∀ (n : Nat), n < 24 → ∃ c, ms[n]? = some c ∧ 0 ≤ c ∧ c < 24 := fun n hn => ⟨ms[n], List.getElem?_eq_getElem (by omega), hms24 _ (List.getElem_mem _)⟩
  have hix : ∀ {n : Nat} {c : Int}, ms[n]? = some c → (ms.map PyData.int)[n]? = some (.int c) := fun h => by rw [List.getElem?_map, h]; rfl
  have dids : ∀ {H' : Hp}, H' a = some (.lst (ms.map V.int)) → Dp K H' (.ref a) (.list (ms.map PyData.int)) := fun h => .lst (.inl (.inl h)) (ints_dpa ms)
  refine q_asgR (lc_good (K := K) (m := 2) (ei_rng (n := 3) (eds_cons (ed_var rfl (.int _)) eds_nil) (by omega)) (by decide) (fun _ => rfl) (fun i d x H4 hd e4 px => ?_) (fun m acc H4 hm e4 h4 hlen4 hacc => ?_))
  · have hi := (List.getElem?_eq_some_iff.mp hd).1
    rw [rgD_len] at hi
    obtain ⟨n, hn, rfl⟩ := map_get hd
    have hn' : n = i := by
      rw [List.getElem?_range hi] at hn
      cases hn; rfl
    subst hn'
    obtain ⟨c1, hc1, hb1⟩ := hid n (by omega)
    obtain ⟨c2, hc2, hb2⟩ := hid (((n : Int) - 1) % 3).toNat (by omega)
    have hk : (((n : Int) - 1) % 3) = (((((n : Int) - 1) % 3).toNat : Nat) : Int) := by omega
    refine ⟨[c1, c2], ⟨fun c hc => ?_, by show 1 ≤ 2; omega, Nat.le_refl _⟩, el_lst (eds_cons (ed_op (ed_var rfl (dids (e4 _ _ h3))) (ed_var rfl px) (rd_ixL (hix hc1))) (eds_cons (ed_op (ed_var rfl (dids (e4 _ _ h3))) ((ed_op (ed_cb (eds_cons (ed_op (ed_var rfl px) ed_int rd_sub) eds_nil) rcd_int) (ed_var rfl (.int _)) (rd_mod (by decide))).is (congrArg PyData.int hk)) (rd_ixL (hix hc2))) eds_nil)) (by show 2 ≤ 100000; omega)⟩
    rcases List.mem_cons.mp hc with rfl | hc
    · exact hb1
    · rw [List.mem_singleton.mp hc]; exact hb2
  have hmj := ja3.ne hm
  have hmH : H m = none := jxA.back ja3 hm
  have h34 := e4 _ _ h3
  have ham : a ≠ m := fun z => by rw [← z, h3] at hm; cases hm
  have ja4 := ja3.ex e4
  have hlen4 : acc.length = 3 := hlen4
  refine q_forJ (K := K) (j := j) (eij_of ja4 (ei_rng (n := 3) (eds_cons (ed_var rfl (.int _)) eds_nil) (by omega))) (fun ds H2 i σ' H' => ∃ v u, σ' = [some (.ref j), some (.int 3), some (.int 3), some (.ref a), none, some (.ref m), v, u] ∧ Jx j H H' ∧ JarAt H' j ∧ TK H2 H' ∧ H' a = some (.lst (ms.map V.int)) ∧ H' m = some (.lst acc) ∧ ∀ y ∈ acc, ∃ (p : Addr) (ns : List Int), y = .ref p ∧ p ≠ m ∧ p ≠ a ∧ p ≠ j ∧ H p = none ∧ H' p = some (.lst (ns.map V.int)) ∧ GoodL (2 + 2 * i) ns)
    (fun ds H2 c jx ja => ?_) (fun ds H2 i σ' H' c ja p => by obtain ⟨_, _, _, _, _, p, _⟩ := p; exact p) (fun ds H5 i d x σ' H' H'' c jx5 ja5 hd p ey px => ?_) (fun ds H5 σ' H' c jx5 ja5 p => ?_)
  · refine ⟨_, _, rfl, (jxA.trans (Jx.of e4)).trans jx, ja, fun _ _ h => h, jx a _ haj h34, jx m _ hmj h4, fun y hy => ?_⟩
    obtain ⟨p, ns, rfl, g1, g2, g3, g4⟩ := hacc y hy
    have hpj := ja3.ne g2
    exact ⟨p, ns, rfl, g1, fun z => (by rw [z, h3] at g2; cases g2), hpj, jxA.back ja3 g2, jx p _ hpj g3, g4⟩
  · subst c
    have hi := (List.getElem?_eq_some_iff.mp hd).1
    rw [rgD_len] at hi
    obtain ⟨n, hn, rfl⟩ := map_get hd
    have hn' : n = i := by
      rw [List.getElem?_range hi] at hn
      cases hn; rfl
    subst hn'
    obtain ⟨v, u, rfl, p1, p2, p3, p4, p5, p6⟩ := p
    have ja' := p2.ex ey
    have hm' := ey _ _ p5
    obtain ⟨q0, ns, hq0, g1, g2, g3, g4, g5, g6⟩ := p6 acc[n] (List.getElem_mem (by omega))
    cases dp_int px
    refine q_asgR ⟨_, rfl, _, rfl, m, acc, n, .ref q0, rfl, rfl, sq_of hm', atI_nat (by rw [← hq0]; exact List.getElem?_eq_getElem (by omega)), ?_⟩
    obtain ⟨c1, hc1, hb1⟩ := hid 2 (by omega)
    obtain ⟨c2, hc2, hb2⟩ := hid (3 + n) (by omega)
    have gl1 := g6.2.2
    have g5' := ey _ _ g5
    have da : ∀ {H'' H3 : Hp}, Jx j H'' H3 → H'' a = some (.lst (ms.map V.int)) → Dp K H3 (.ref a) (.list (ms.map PyData.int)) := fun jx h => dids (jx a _ haj h)
    refine q_extIf g5' g3 rfl rfl ja' (by omega) hb1 (fun H6 jx6 => ed_op (ed_var rfl (da jx6 (ey _ _ p4))) ((ed_op (ed_var rfl (.int _)) ed_int rd_sub).is (b := (.int ((2 : Nat) : Int))) rfl) (rd_ixL (hix hc1))) (fun H6 ns1 jx6 ja6 hn1 hl1 => ?_)
    have g6' := jx6 q0 _ g3 g5'
    have a6 := jx6 a _ haj (ey _ _ p4)
    have f7 := FK.upd_lst (o := .lst ((ns ++ ns1).map V.int)) g6'
    have a7 : upd H6 q0 (.lst ((ns ++ ns1).map V.int)) a = some (.lst (ms.map V.int)) := by rw [upd_ne (Ne.symm g2)]; exact a6
    have ja7 := ja6.updn (o := .lst ((ns ++ ns1).map V.int)) g3
    refine s_extIf (ns := ns ++ ns1) upd_same g3 rfl rfl ja7 (by rw [List.length_append]; omega) hb2 (fun H8 jx8 => ed_op (ed_var rfl (da jx8 a7)) ((ed_op (ed_var rfl (.int _)) (ed_var rfl (.int _)) rd_add).is (b := (.int ((3 + n : Nat) : Int))) (congrArg PyData.int (by omega))) (rd_ixL (hix hc2))) (fun H8 ns2 jx8 ja8 hn2 hl2 => ?_)
    have g8 := jx8 q0 _ g3 upd_same
    have f9 := FK.upd_lst (o := .lst (((ns ++ ns1) ++ ns2).map V.int)) g8
    have keep : ∀ (b : Addr) (o : HO), b ≠ j → b ≠ q0 → H' b = some o → upd H8 q0 (.lst (((ns ++ ns1) ++ ns2).map V.int)) b = some o := fun b o hbj hbq hb => by
      rw [upd_ne hbq]
      refine jx8 b _ hbj ?_
      rw [upd_ne hbq]
      exact jx6 b _ hbj (ey _ _ hb)
    refine ⟨_, _, rfl, fun b o hbj hb => ?_, ja8.updn g3, p3.trans ((TK.of_ex ey).trans (((jx6.fk ja').trans f7).trans ((jx8.fk ja7).trans f9)).1), keep a _ haj (Ne.symm g2) p4, keep m _ hmj (Ne.symm g1) p5, fun y hy => ?_⟩
    · have hbq : b ≠ q0 := fun z => by rw [z, g4] at hb; cases hb
      exact keep b o hbj hbq (p1 b o hbj hb)
    · obtain ⟨p', ns', rfl, r1, r2, r3, r4, r5, r6⟩ := p6 y hy
      by_cases hpq : p' = q0
      · subst hpq
        exact ⟨_, (ns ++ ns1) ++ ns2, rfl, r1, r2, r3, r4, upd_same, (((g6.app hn1 hl1).app hn2 hl2)).mono (by omega)⟩
      · exact ⟨p', ns', rfl, r1, r2, r3, r4, keep p' _ r3 hpq r5, r6.mono (by omega)⟩
  · subst c
    have fin : ∀ (σ' : L2.St) (H' : Hp) (acc : List V), σ'[0]? = some (some (.ref j)) → σ'[5]? = some (some (.ref m)) → (∀ x, wipe ((wipe σ' [7]).set 7 (some x)) [7] = wipe σ' [7]) → (∀ x y, wipe ((wipe ((wipe σ' [7]).set 7 (some x)) [4]).set 4 (some y)) [4] = wipe ((wipe σ' [7]).set 7 (some x)) [4]) → (∀ x : V, ((wipe σ' [7]).set 7 (some x))[7]? = some (some x)) → (∀ x y : V, ((wipe ((wipe σ' [7]).set 7 (some x)) [4]).set 4 (some y))[4]? = some (some y)) →
        Jx j H H' → JarAt H' j → H' m = some (.lst acc) → 3 ≤ acc.length → acc.length ≤ 4 → (∀ y ∈ acc, ∃ (p : Addr) (ns : List Int), y = .ref p ∧ p ≠ j ∧ H' p = some (.lst (ns.map V.int)) ∧ GoodL 8 ns) →
        tRet (tCB (rTupOf K) (tCons (tLc (iList K (tCall (MixSp K) [] E0 (tCons (tVar 0) (tCons (tVar 5) tNil)))) (gName 7) tYes (tCall (RisSp K) [] E0 (tCons (tLc (iList K (tVar 7)) (gName 4) tYes (tLst (tCons (tVar 4) tNil)) [4]) tNil)) [7]) tNil)) { nx := fun x H' => Q V.non H', rt := Q } σ' H' := by
      intro σ' H' acc s0 s5 w1 w2 v7 v4 p1 p2 p5 hl1 hl2 p6
      refine r_cb1 (lc_src ⟨_, s0, _, s5, j, m, acc, rfl, p2, .inl (sq_of p5), by omega, fun l ys H5 hl hp h5 jx5 ja5 => ?_⟩)
      obtain ⟨B, b1, b2, b3⟩ := goods (K := K) (m := 8) (H := H5) (xs := ys) (fun y hy => by
        obtain ⟨p, ns, rfl, r3, r5, r6⟩ := p6 y (hp.mem_iff.mp hy)
        exact ⟨p, ns, rfl, jx5 p _ r3 r5, r6⟩)
      have hyl := hp.length_eq
      refine el_lcV (K := K) (P := SchV (SchP 24 8)) (ei_lst (ed_c (.lst (.inl (.inl h5)) b3))) (by rw [List.length_map]; omega) w1 (fun x H1 H2 f p => p.fk f) (fun i d x H6 hd e6 px Q' q => ?_) (fun l2 xs H6 hl2 e6 h6 hlen6 hP => ?_)
      · obtain ⟨ns, hns, rfl⟩ := map_get hd
        have hg := b2 ns (List.mem_of_getElem? hns)
        have hg1 := hg.2.1
        have hg2 := hg.2.2
        refine call1 ?_
        refine lc_listsI (K := K) (xs := ns) (enc := PyData.int) (f := fun c => [c]) (ei_lst (ed_var (v7 x) px)) (by omega) (w2 x) (fun c y H7 hc e7 py => el_lst (eds_cons (ed_var (v4 x y) py) eds_nil) (by show 1 ≤ 100000; omega)) fun v H7 e7 pv => ?_
        have hsum := sumL_ones ns
        refine ⟨v, ns.map fun c => (true, [c]), rfl, by rw [List.map_map]; exact pv, by rw [List.length_map]; omega, by omega, fun l H8 hl8 e8 hs8 => q _ H8 (e7.trans e8) ⟨l, _, rfl, hs8, ?_⟩⟩
        have ok := risA_ok (Ls := ns.map fun c => (true, [c])) (fun L hL => by
          obtain ⟨c, _, rfl⟩ := List.mem_map.mp hL
          exact List.nodup_cons.mpr ⟨by simp, List.nodup_nil⟩)
        have hlen := risA_len (Ls := ns.map fun c => (true, [c]))
        refine srt_sch ok.1 (fun x hx => ?_) ?_ (by omega)
        · obtain ⟨L, hL, hx⟩ := (ok.2 x).mp hx
          obtain ⟨c, hc, rfl⟩ := List.mem_map.mp hL
          rw [List.mem_singleton.mp hx]
          exact hg.1 c hc
        · obtain ⟨c, hc⟩ : ∃ c, c ∈ ns := ⟨ns[0], List.getElem_mem (by omega)⟩
          exact List.length_pos_of_mem ((ok.2 c).mpr ⟨_, List.mem_map.mpr ⟨c, hc, rfl⟩, List.mem_cons_self⟩)
      · rw [List.length_map] at hlen6
        refine ⟨l2, xs, rfl, .inl ⟨sq_of h6, fun a ha => ?_⟩⟩
        obtain ⟨B', c1, c2, c3⟩ := bkn_of (a := a) (H := upd H6 a (.tup xs)) (fun v hv => (hP v hv).fk (FK.new ha)) (.inl upd_same)
        exact k _ B' _ (p1.trans (jx5.trans ((Jx.of e6).trans (Jx.of (Ex.new ha))))) ((ja5.ex e6).ex (Ex.new ha)) c1 ⟨by omega, by omega, c3⟩
    obtain ⟨v, u, rfl, p1, p2, p3, p4, p5, p6⟩ := p
    have p6n := p6
    have p6 : ∀ y ∈ acc, ∃ (p : Addr) (ns : List Int), y = .ref p ∧ p ≠ j ∧ H' p = some (.lst (ns.map V.int)) ∧ GoodL 8 ns := fun y hy => by
      obtain ⟨p, ns, rfl, r1, r2, r3, r4, r5, r6⟩ := p6 y hy
      exact ⟨p, ns, rfl, r3, r5, r6.mono (by rw [rgD_len]; omega)⟩
    refine q_ifR (ej_test0 (K := K) (top := 2) rfl p2 (eds_cons ed_int eds_nil) (by omega) (by omega) fun b H6 jx6 ja6 => ?_)
    have p6' : ∀ y ∈ acc, ∃ (p : Addr) (ns : List Int), y = .ref p ∧ p ≠ j ∧ H6 p = some (.lst (ns.map V.int)) ∧ GoodL 8 ns := fun y hy => by
      obtain ⟨p, ns, rfl, r3, r5, r6⟩ := p6 y hy
      exact ⟨p, ns, rfl, r3, jx6 p _ r3 r5, r6⟩
    have m6 := jx6 m _ hmj p5
    have a6 := jx6 a _ haj p4
    cases b with
    | false =>
      rw [if_neg Bool.false_ne_true]
      exact fin _ H6 acc rfl rfl (fun _ => rfl) (fun _ _ => rfl) (fun _ => rfl) (fun _ _ => rfl) (p1.trans jx6) ja6 m6 (by omega) (by omega) p6'
    | true =>
      rw [if_pos rfl]
      refine ⟨_, rfl, Or.inl ⟨rfl, acc, sq_of m6⟩, ?_⟩
      refine ⟨_, rfl, ⟨_, rfl, ⟨_, rfl, 3, rfl, a, _, rfl, sq_of a6, fun p hp => ?_⟩⟩⟩
      rw [show ((3 : Int)) = ((3 : Nat) : Int) from rfl, cut_to, ← List.map_take]
      have hpj := ja6.ne hp
      refine ⟨j, p, _, rfl, ja6.updn hpj, .inl (sq_of upd_same), hpj, by rw [List.length_map, List.length_take]; omega, by rw [List.length_map, List.length_take]; omega, fun d c H7 hc jx7 ja7 => ?_⟩
      obtain ⟨c, hcm, rfl⟩ := List.mem_map.mp (List.mem_of_getElem? hc)
      have hcb := hms24 c (List.mem_of_mem_take hcm)
      obtain ⟨c2, hc2, hb2⟩ := hid 23 (by omega)
      have ap : a ≠ p := fun z => by rw [← z, a6] at hp; cases hp
      have mp : m ≠ p := fun z => by rw [← z, m6] at hp; cases hp
      have a7 := jx7 a _ haj (by rw [upd_ne ap]; exact a6)
      have m7 := jx7 m _ hmj (by rw [upd_ne mp]; exact m6)
      refine ⟨_, rfl, a, _, 23, .int c2, rfl, rfl, sq_of a7, atI_nat (by rw [List.getElem?_map, hc2]; rfl), ?_⟩
      refine ⟨by show 2 ≤ sizeLine; exact sz_of (by decide), fun q hq => ?_⟩
      have e8 := Ex.new (o := .lst [.int c, .int c2]) hq
      have m8 := e8 _ _ m7
      have jx8 : Jx j H6 (upd H7 q (.lst [.int c, .int c2])) := ((Jx.of (Ex.new hp)).trans jx7).trans (Jx.of e8)
      have ja8 := ja7.ex e8
      refine ⟨m, acc, .ref q, rfl, rfl, m8, sz_lt (by omega), ?_⟩
      have hqm : q ≠ m := fun z => by rw [z, m7] at hq; cases hq
      refine fin _ _ (acc ++ [.ref q]) rfl rfl (fun _ => rfl) (fun _ _ => rfl) (fun _ => rfl) (fun _ _ => rfl) ((p1.trans (jx6.trans jx8)).updn hmH) (ja8.updn hmj) upd_same (by rw [List.length_append]; omega) (by rw [List.length_append]; show acc.length + 1 ≤ 4; omega) (fun y hy => ?_)
      rcases List.mem_append.mp hy with hy | hy
      · obtain ⟨p', ns, rfl, r3, r5, r6⟩ := p6' y hy
        have hpm : p' ≠ m := by
          obtain ⟨_, _, e, r1, _⟩ := p6n _ hy
          cases e; exact r1
        exact ⟨p', ns, rfl, r3, by rw [upd_ne hpm]; exact jx8 p' _ r3 r5, r6⟩
      · rw [List.mem_singleton.mp hy]
        refine ⟨q, [c, c2], rfl, ja7.ne hq, by rw [upd_ne hqm]; exact upd_same, fun x hx => ?_, by show 1 ≤ 2; omega, by show 2 ≤ 8; omega⟩
        rcases List.mem_cons.mp hx with rfl | hx
        · exact hcb
        · rw [List.mem_singleton.mp hx]; exact hb2
end
end BB
/-! L16: fellow columns, same columns, called. -/
namespace BB
open PySem L2 Evl LamX
/-- a def that gives a new list of data -/
def NewSp (K : PySem.W.Frag) (P : List PyData → List PyData → Prop) : Sp := fun vs H Q _ => ∃ ds es, DpAll K H vs ds ∧ P ds es ∧ ∀ p xs H', H p = none → Ex H H' → H' p = some (.lst xs) → DpAll K H' xs es → Q (.ref p) H'
def fellowJ (B : List (List Int)) (c : Int) : List Nat := (List.range B.length).filter fun j => decide (c ∈ B.getD j [])
def fellowD (B : List (List Int)) (c : Int) : PyData := .tuple [.int c, natsD (fellowJ B c)]
def P_fellow : List PyData → List PyData → Prop := fun ds es => ∃ (B : List (List Int)) (i : Nat) (s : List Int), ds = [.list (B.map schD), .int (i : Int)] ∧ B[i]? = some s ∧ B.length ≤ 1000 ∧ (∀ s ∈ B, s.length ≤ 1000) ∧ es = s.map (fellowD B)
theorem tupled_fellow (B : List (List Int)) (c : Int) : tupled (fellowD B c) = true := tupled_tup fun d hd => by
  rcases List.mem_cons.mp hd with rfl | hd
  · rfl
  · rw [List.mem_singleton.mp hd]; exact tupled_nats _
/-! ### a renaming -/
def renF (prs : List (Int × Int)) : Int → Int := prs.foldl (fun g p => fun c => if c = p.1 then p.2 else g c) id
theorem renF_snoc (prs : List (Int × Int)) (p : Int × Int) (c : Int) : renF (prs ++ [p]) c = if c = p.1 then p.2 else renF prs c := by
  unfold renF; rw [List.foldl_append]; rfl
theorem renF_not {prs : List (Int × Int)} {c : Int} : c ∉ prs.map (·.1) → renF prs c = c := by
  induction prs using snoc_ind with
  | h0 => intro _; rfl
  | h1 prs p ih =>
    intro h
    rw [List.map_append, List.mem_append, not_or] at h
    have : c ≠ p.1 := fun z => h.2 (by rw [z]; exact List.mem_cons_self)
    rw [renF_snoc, if_neg this]
    exact ih h.1
theorem renF_mem {prs : List (Int × Int)} : (prs.map (·.1)).Nodup → ∀ p ∈ prs, renF prs p.1 = p.2 := by
  induction prs using snoc_ind with
  | h0 => intro _ p h; cases h
  | h1 prs p ih =>
    intro h q hq
    rw [List.map_append] at h
    obtain ⟨h1, h2, h3⟩ := List.nodup_append.mp h
    rcases List.mem_append.mp hq with hq | hq
    · have : q.1 ≠ p.1 := h3 q.1 (List.mem_map.mpr ⟨q, hq, rfl⟩) p.1 List.mem_cons_self
      rw [renF_snoc, if_neg this]
      exact ih h1 q hq
    · rw [List.mem_singleton.mp hq, renF_snoc, if_pos rfl]
def prsK (prs : List (Int × Int)) : List (Key × V) := prs.map fun p => (Sum.inl p.1, V.int p.2)
theorem renK (prs : List (Int × Int)) (c : Int) : (valV (mergeK [] (prsK prs)) (Sum.inl c)).getD (.int c) = .int (renF prs c) := by
  induction prs using snoc_ind with
  | h0 => rfl
  | h1 prs p ih =>
    have e : mergeK [] (prsK (prs ++ [p])) = putK (mergeK [] (prsK prs)) (Sum.inl p.1) (.int p.2) := by
      unfold mergeK prsK
      rw [List.map_append, List.foldl_append]; rfl
    rw [e, valV_put, renF_snoc]
    by_cases h : c = p.1
    · rw [if_pos (congrArg Sum.inl h), if_pos h]; rfl
    · rw [if_neg (fun z => h (by injection z)), if_neg h]; exact ih
def ipD (p : Int × Int) : PyData := .tuple [.int p.1, .int p.2]
theorem prs_paired {K : PySem.W.Frag} {H : Hp} : ∀ {prs : List (Int × Int)} {xs : List V}, DpAll K H xs (prs.map ipD) → ∃ ps : List Addr, xs = ps.map V.ref ∧ Paired (fun p kv => SqT K H p [kV kv.1, kv.2]) ps (prsK prs)
  | [], _, .nil => ⟨[], rfl, .nil⟩
  | p :: prs, _, .cons h t => by
    obtain ⟨ps, e1, e2⟩ := prs_paired t
    obtain ⟨a, ys, rfl, h1, h2⟩ := dp_tup h
    obtain ⟨u, v, rfl, hu, hv⟩ := dpa2 h2
    cases dp_int hu; cases dp_int hv
    exact ⟨a :: ps, by rw [e1]; rfl, .cons h1 e2⟩
section
variable {P : Program} {w : World} {K : PySem.W.Frag} {mg : Str → Option Value} {base : Heap}
theorem sc__law_fellow_columns : FnScope ["_law_book", "_law_i", "_law_j", "_law_c"] ["_law_book", "_law_i"] (defScope st__law_fellow_columns) := ⟨rfl, rfl, rfl, by decide +kernel, rfl, by decide +kernel, by decide +kernel⟩
theorem ok__law_fellow_columns (T : Txt K mg) : FnOk P w K mg base CX0 1 T.d__law_fellow_columns.f T.d__law_fellow_columns.fd ["_law_book", "_law_i"] (NewSp K P_fellow) := by
  refine T.d__law_fellow_columns.F.ok sc__law_fellow_columns ?len (fun cdv A outer s H vs Q E hr h => ?_)
  case len =>
    rintro vs H Q E ⟨ds, es, h, ⟨B, i, s, rfl, _⟩, _⟩
    exact h.length
  obtain ⟨ds, es, h, ⟨B, i, sc, rfl, hi, hB, hBs, rfl⟩, k⟩ := h
  obtain ⟨x, y, rfl, px, py⟩ := dpa2 h
  refine ⟨_, (pss_one (ps_ret (pe_lc (own := [("_law_c", 3)]) rfl sc__law_fellow_columns.nd (piTK (K := K) (pe_ix (ixLK (K := K)) (pv 0) (pv 1) (fun _ _ => rfl))) (blkOk_by (own := [("_law_c", 3)]) (N := ["_law_book", "_law_i", "_law_j", "_law_c"]) (sc := defScope st__law_fellow_columns) (by decide +kernel)) (fun _ _ _ _ _ => (pg_name (i := 3) sc__law_fellow_columns.nd rfl (by first | exact Or.inl rfl | exact Or.inr rfl))) (fun _ _ _ _ _ => pts_nil) (fun _ _ _ _ _ => (pe_tup (pa_cons (pv 3) (pa_cons (pe_callTy (tupK (K := K)) (by rfl) T.b_tuple (by decide +kernel) (pa_cons (pe_lc (own := [("_law_j", 2)]) rfl sc__law_fellow_columns.nd (pi_range1 (by rfl) T.b_range (pa_cons (pe_callB (lenK (K := K)) (by rfl) T.b_len (by decide +kernel) (pa_cons (pv 0) pa_nil)) pa_nil)) (blkOk_by (own := [("_law_j", 2)]) (N := ["_law_book", "_law_i", "_law_j", "_law_c"]) (sc := (relabel _ _)) (by rfl)) (fun _ _ _ _ _ => (pg_name (i := 2) sc__law_fellow_columns.nd rfl (by first | exact Or.inl rfl | exact Or.inr rfl))) (fun _ _ _ _ _ => pts_one (pt_cmpR (inK (K := K)) (pv 3) (pe_ix (ixLK (K := K)) (pv 0) (pv 2) (fun _ _ => rfl)) (by rfl))) (fun _ _ _ _ _ => (pv 2))) pa_nil)) pa_nil))))))), ?_⟩
  have hsl := hBs sc (List.mem_of_getElem? hi)
  have hiB : ∀ {j : Nat} {t : List Int}, B[j]? = some t → (B.map schD)[j]? = some (schD t) := fun h => by rw [List.getElem?_map, h]; rfl
  refine r_raw (el_lcY (K := K) (xs := sc) (enc := PyData.int) (w := fellowD B) (fun H1 e1 => ei_tup (ed_op (ed_var rfl (px.ex e1)) (ed_var rfl (py.ex e1)) (rd_ixL (hiB hi)))) (by omega) (fun c _ => stay_tupled _ (tupled_fellow B c)) (fun _ => rfl) (fun c u H1 hc e1 pu => ?_) H (Ex.refl _) _ fun p xs H1 hp e1 h1 d1 => k p xs H1 hp e1 h1 d1)
  refine ed_tup (eds_cons (ed_var rfl pu) (eds_cons ?_ eds_nil)) (by show 2 ≤ 100000; omega)
  refine ed_cb (eds_cons (ds := []) (a := .list ((fellowJ B c).map nD)) ?_ eds_nil) rcd_tuple
  refine ed_lc (xs := List.range B.length) (enc := nD) (f := fun j => decide (c ∈ B.getD j [])) (w := nD) (fun H2 e2 => ?_) (by rw [List.length_range]; omega) (fun _ _ _ => rfl) (fun _ => rfl) (fun j z H2 hj e2 pz => ?_) (fun j z H2 hj e2 pz _ => ed_var rfl pz)
  · have := ei_rng (K := K) (GG := Ex) (n := B.length) (tr := tCons (tCB (rLen K) (tCons (tVar 0) tNil)) tNil) (σ := (wipe (L2.start ["_law_book", "_law_i", "_law_j", "_law_c"] [x, y]) [3]).set 3 (some u)) (H := H2) (eds_cons (ed_lenL (ed_var rfl ((px.ex e1).ex e2))) eds_nil) (by omega)
    exact this
  · have hj := List.mem_range.mp hj
    have e : B[j]? = some (B.getD j []) := by rw [List.getD_eq_getElem?_getD, List.getElem?_eq_getElem hj]; rfl
    exact et_B (ed_op (ed_var rfl (pu.ex e2)) (ed_op (ed_var rfl ((px.ex e1).ex e2)) (ed_var rfl pz) (rd_ixL (hiB e))) rd_inT)
theorem sc__law_called : FnScope ["_law_book", "_law_pairs", "_law_calls", "_law_c", "_law_scheme_here"] ["_law_book", "_law_pairs"] (defScope st__law_called) := ⟨rfl, rfl, rfl, by decide +kernel, rfl, by decide +kernel, by decide +kernel⟩
def CallSp (K : PySem.W.Frag) : Sp := fun vs H Q _ => ∃ (x y : V) (B : List (List Int)) (prs : List (Int × Int)), vs = [x, y] ∧ Dp K H x (.list (B.map schD)) ∧ Dp K H y (.list (prs.map ipD)) ∧ B.length ≤ 1000 ∧ prs.length ≤ 1000 ∧ (∀ s ∈ B, s.length ≤ 1000) ∧
  ∀ l xs H', H l = none → Ex H H' → H' l = some (.lst xs) → xs.length = B.length → (∀ v ∈ xs, SchV (fun t => ∃ s ∈ B, t = srtI (s.map (renF prs))) v H') → Q (.ref l) H'
theorem ok__law_called (T : Txt K mg) : FnOk P w K mg base CX0 1 T.d__law_called.f T.d__law_called.fd ["_law_book", "_law_pairs"] (CallSp K) := by
  refine T.d__law_called.F.ok sc__law_called ?len (fun cdv A outer s H vs Q E hr h => ?_)
  case len =>
    rintro vs H Q E ⟨x, y, B, prs, rfl, _⟩
    rfl
  obtain ⟨x, y, B, prs, rfl, px, py, hB, hprs, hBs, k⟩ := h
  refine ⟨_, (pss_cons (ps_set (i := 2) sc__law_called.nd rfl (by first | exact Or.inl rfl | exact Or.inr rfl) (pe_callTy (call_dictP rfl) (by rfl) T.b_dict (by decide +kernel) (pa_cons (pv 1) pa_nil)))
      (pss_one (ps_ret (pe_lc (own := [("_law_scheme_here", 4)]) rfl sc__law_called.nd (piLK (K := K) (pv 0)) (blkOk_by (own := [("_law_scheme_here", 4)]) (N := ["_law_book", "_law_pairs", "_law_calls", "_law_c", "_law_scheme_here"]) (sc := defScope st__law_called) (by decide +kernel)) (fun _ _ _ _ _ => (pg_name (i := 4) sc__law_called.nd rfl (by first | exact Or.inl rfl | exact Or.inr rfl))) (fun _ _ _ _ _ => pts_nil) (fun _ _ _ _ _ => (pe_callTy (tupNK (K := K)) (by rfl) T.b_tuple (by decide +kernel) (pa_cons (pe_callB (srtK (K := K)) (by rfl) T.b_sorted (by decide +kernel) (pa_cons (pe_lc (own := [("_law_c", 3)]) rfl sc__law_called.nd (piTK (K := K) (pv 4)) (blkOk_by (own := [("_law_c", 3)]) (N := ["_law_book", "_law_pairs", "_law_calls", "_law_c", "_law_scheme_here"]) (sc := (relabel _ _)) (by rfl)) (fun _ _ _ _ _ => (pg_name (i := 3) sc__law_called.nd rfl (by first | exact Or.inl rfl | exact Or.inr rfl))) (fun _ _ _ _ _ => pts_nil) (fun _ _ _ _ _ => (pe_dget2 (hu_of hr) (pv 2) (pv 3) (pv 3) ⟨rfl, rfl, rfl, rfl⟩))) pa_nil)) pa_nil))))))), ?_⟩
  obtain ⟨a, ys, rfl, y1, y2⟩ := dp_lst py
  obtain ⟨ps, rfl, pd⟩ := prs_paired y2
  refine q_asgR ⟨_, rfl, a, ps, prsK prs, rfl, y1, pd, fun d hd => ?_⟩
  have e1 := Ex.new (o := .dK (mergeK [] (prsK prs))) hd
  refine r_raw (el_lcV (K := K) (ds := B.map schD) (P := SchV (fun t => ∃ s ∈ B, t = srtI (s.map (renF prs)))) (ei_lst (ed_var rfl (px.ex e1))) (by rw [List.length_map]; omega) (fun _ => rfl) (fun x H1 H2 f p => p.fk f) (fun i d' x H2 hd' e2 pz Q' q => ?_) (fun l xs H2 hl e2 h2 hlen hP => k l xs H2 (fresh_back e1 hl) (e1.trans e2) h2 (by rw [hlen, List.length_map]) hP))
  obtain ⟨t, ht, rfl⟩ := map_get hd'
  have htB := List.mem_of_getElem? ht
  have htl := hBs t htB
  refine en_srt (K := K) (ns := t.map (renF prs)) (fun Q2 q2 => ?_) (fun l H3 hl e3 hs => q _ H3 e3 ⟨l, _, rfl, hs, t, htB, rfl⟩)
  refine el_lcY (K := K) (xs := t) (enc := PyData.int) (w := fun c => PyData.int (renF prs c)) (fun H3 e3 => ei_tup (ed_var rfl (pz.ex e3))) (by omega) (fun _ _ => rfl) (fun _ => rfl) (fun c u H3 hc e3 pu => ?_) H2 (Ex.refl _) _ fun p zs H3 hp e3 h3 d3 => ?_
  · cases dp_int pu
    intro H4 e4 Q3 q3
    refine ⟨_, rfl, d, rfl, .inl ⟨_, .inl (e4 _ _ (e3 _ _ (e2 _ _ upd_same)))⟩, _, rfl, _, rfl, valV (mergeK [] (prsK prs)) (Sum.inl c), .inl ⟨_, Sum.inl c, .inl (e4 _ _ (e3 _ _ (e2 _ _ upd_same))), rfl, rfl⟩, ?_⟩
    rw [renK]
    exact q3 _ H4 (Ex.refl _) (.int _)
  · have : zs = (t.map (renF prs)).map V.int := by
      have e : (t.map fun c => PyData.int (renF prs c)) = (t.map (renF prs)).map PyData.int := by rw [List.map_map]; rfl
      rw [e] at d3
      exact dpa_ints d3
    subst this
    exact q2 p H3 e3 (sq_of h3)
end
end BB
/-! L17: same columns. -/
namespace BB
open PySem L2 Evl LamX
section
variable {P : Program} {w : World} {K : PySem.W.Frag} {mg : Str → Option Value} {base : Heap}
theorem eg_raw2 {σ : L2.St} {H : Hp} {q : Addr} {u w : V} {i j : Nat} {Q : L2.St → Hp → Prop} (h1 : SqT K H q [u, w]) (h : Q ((σ.set i (some u)).set j (some w)) H) : gTup K 2 (gCons (gName i) (gCons (gName j) gNil)) (.ref q) σ H Q :=
  ⟨q, _, rfl, h1, rfl, u, _, rfl, w, _, rfl, rfl, h⟩
theorem q_asgG {σ : L2.St} {H : Hp} {te : TE} {g : TG} {tz : TS} {D : Ends} (h : te σ H fun x H1 => g x σ H1 (tz D)) : tSeq (tAsg te g) tz D σ H := h
def SameSp (K : PySem.W.Frag) : Sp := fun vs H Q _ => ∃ (j p : Addr) (xs : List V) (B : List (List Int)), vs = [.ref j, .ref p] ∧ JarAt H j ∧ p ≠ j ∧ H p = some (.lst xs) ∧ DpAll K H xs (B.map schD) ∧ 1 ≤ B.length ∧ B.length ≤ 1000 ∧ (∀ s ∈ B, 1 ≤ s.length ∧ s.length ≤ 1000 ∧ s.Nodup) ∧
  ∀ (l : Addr) (cs s : List Int) (H' : Hp), H l = none → Jx j H H' → JarAt H' j → H' l = some (.lst (cs.map V.int)) → s ∈ B → cs.Nodup → 1 ≤ cs.length → cs.length ≤ s.length → (∀ c ∈ cs, c ∈ s) → Q (.ref l) H'
theorem sc__law_same_columns : FnScope ["_law_jar", "_law_book", "_law_rows", "_law_drawn", "_law_lot", "_law_row"] ["_law_jar", "_law_book"] (defScope st__law_same_columns) := ⟨rfl, rfl, rfl, by decide +kernel, rfl, by decide +kernel, by decide +kernel⟩
theorem ok__law_same_columns (T : Txt K mg) : FnOk P w K mg base CX0 3 T.d__law_same_columns.f T.d__law_same_columns.fd ["_law_jar", "_law_book"] (SameSp K) := by
  refine T.d__law_same_columns.F.ok sc__law_same_columns ?len (fun cdv A outer s H vs Q E hr h => ?_)
  case len =>
    rintro vs H Q E ⟨j, p, xs, B, rfl, _⟩
    rfl
  obtain ⟨j, p, xs, B, rfl, hj, hpj, hp, hd, hB1, hB2, hBs, k⟩ := h
  refine ⟨_, (pss_cons (ps_set (i := 2) sc__law_same_columns.nd rfl (by first | exact Or.inl rfl | exact Or.inr rfl) (pe_call (ok__law_fellow_columns (P := P) (w := w) T) (hr.mono (by decide)) (by rfl) T.d__law_fellow_columns.g T.d__law_fellow_columns.F.kp T.d__law_fellow_columns.b .nil pass0 (pa_cons (pv 1) (pa_cons (pe_call (ok__law_take (P := P) (w := w) T) (hr.mono (by decide)) (by rfl) T.d__law_take.g T.d__law_take.F.kp T.d__law_take.b .nil pass0 (pa_cons (pv 0) (pa_cons (pe_callB (lenK (K := K)) (by rfl) T.b_len (by decide +kernel) (pa_cons (pv 1) pa_nil)) pa_nil))) pa_nil))))
      (pss_cons (ps_set (i := 3) sc__law_same_columns.nd rfl (by first | exact Or.inl rfl | exact Or.inr rfl) (pe_call (ok__law_one (P := P) (w := w) T) (hr.mono (by decide)) (by rfl) T.d__law_one.g T.d__law_one.F.kp T.d__law_one.b .nil pass0 (pa_cons (pv 0) (pa_cons (pv 2) pa_nil))))
      (pss_cons (ps_set (i := 4) sc__law_same_columns.nd rfl (by first | exact Or.inl rfl | exact Or.inr rfl) (pe_call (ok__law_mixed (P := P) (w := w) T) (hr.mono (by decide)) (by rfl) T.d__law_mixed.g T.d__law_mixed.F.kp T.d__law_mixed.b .nil pass0 (pa_cons (pv 0) (pa_cons (pe_lc (own := [("_law_row", 5)]) rfl sc__law_same_columns.nd (piLK (K := K) (pv 2)) (blkOk_by (own := [("_law_row", 5)]) (N := ["_law_jar", "_law_book", "_law_rows", "_law_drawn", "_law_lot", "_law_row"]) (sc := defScope st__law_same_columns) (by decide +kernel)) (fun _ _ _ _ _ => (pg_name (i := 5) sc__law_same_columns.nd rfl (by first | exact Or.inl rfl | exact Or.inr rfl))) (fun _ _ _ _ _ => pts_one (pt_cmpR (eqDK (K := K) hr) (pe_ix (ixTK (K := K)) (pv 5) pe_int (fun _ _ => rfl)) (pe_ix (ixTK (K := K)) (pv 3) pe_int (fun _ _ => rfl)) (nomark _))) (fun _ _ _ _ _ => (pe_ix (ixTK (K := K)) (pv 5) pe_int (fun _ _ => rfl)))) pa_nil))))
      (pss_one (ps_ret (pe_slice (slLK (K := K)) (pv 4) po_none (po_some (pe_op op_add pe_int (pe_call (ok__law_take (P := P) (w := w) T) (hr.mono (by decide)) (by rfl) T.d__law_take.g T.d__law_take.F.kp T.d__law_take.b .nil pass0 (pa_cons (pv 0) (pa_cons (pe_callB (lenK (K := K)) (by rfl) T.b_len (by decide +kernel) (pa_cons (pv 4) pa_nil)) pa_nil))))))))))), ?_⟩
  have px : Dp K H (.ref p) (.list (B.map schD)) := .lst (.inl (.inl hp)) hd
  have hst : stayAll (B.map schD) = true := stayAll_map fun s _ => stay_sch s
  refine q_asgR ⟨_, rfl, ej_take (K := K) (top := B.length) rfl hj (eds_cons (ed_lenL (ed_var rfl px)) eds_nil) hB1 hB2 fun d H1 hdB jx1 ja1 => ?_⟩
  have hi : B[d]? = some B[d] := List.getElem?_eq_getElem hdB
  obtain ⟨hs1, hs2, hs3⟩ := hBs B[d] (List.getElem_mem hdB)
  generalize B[d] = sc at hi hs1 hs2 hs3
  have hscB : sc ∈ B := List.mem_of_getElem? hi
  have px1 : Dp K H1 (.ref p) (.list (B.map schD)) := .lst (.inl (.inl (jx1 p _ hpj hp))) (dpa_tk (jx1.fk hj).1 _ _ hst hd)
  refine ⟨[.list (B.map schD), .int (d : Int)], sc.map (fellowD B), .cons px1 (.cons (.int _) .nil), ⟨B, d, sc, rfl, hi, hB2, fun s hs => (hBs s hs).2.1, rfl⟩, fun r rows H2 hr2 e2 h2 d2 => ?_⟩
  have ja2 := ja1.ex e2
  have hrj := ja1.ne hr2
  have hrl := d2.length
  rw [List.length_map] at hrl
  refine q_asgR ⟨_, rfl, _, rfl, j, r, rows, rfl, ja2, .inl (sq_of h2), hrj, by omega, by omega, fun d' y H3 hy jx3 ja3 => ?_⟩
  obtain ⟨dd, hdd, py⟩ := d2.get hy
  obtain ⟨c0, hc0, rfl⟩ := map_get hdd
  have hstR : stayAll (sc.map (fellowD B)) = true := stayAll_map fun c _ => stay_tupled _ (tupled_fellow B c)
  have f3 := (jx3.fk ja2).1
  have py3 := dp_tk f3 _ _ (stay_tupled _ (tupled_fellow B c0)) py
  have pr3 : Dp K H3 (.ref r) (.list (sc.map (fellowD B))) := .lst (.inl (.inl (jx3 r _ hrj h2))) (dpa_tk f3 _ _ hstR d2)
  refine q_asgR ⟨_, rfl, el_lc (K := K) (xs := sc) (enc := fellowD B) (f := fun c => PyData.eqv (natsD (fellowJ B c)) (natsD (fellowJ B c0))) (w := PyData.int) (fun H4 e4 => ei_lst (ed_var rfl (pr3.ex e4))) (by omega) (fun _ _ _ => rfl) (fun _ => rfl)
    (fun c z H4 hc e4 pz => et_B (ed_op (ed_op (ed_var rfl pz) ed_int (rd_ixT (i := 1) rfl)) (ed_op (ed_var rfl (py3.ex e4)) ed_int (rd_ixT (i := 1) rfl)) (rd_eqD (shaped_of (tupled_nats _) (by rw [natsD_eq]; have := depth_ints ((fellowJ B c).map fun (i : Nat) => (i : Int)); omega)) (shaped_of (tupled_nats _) (by rw [natsD_eq]; have := depth_ints ((fellowJ B c0).map fun (i : Nat) => (i : Int)); omega)))))
    (fun c z H4 hc e4 pz _ => ed_op (ed_var rfl pz) ed_int (rd_ixT (i := 0) rfl)) H3 (Ex.refl _) _ fun q zs H4 hq e4 h4 d4 => ?_⟩
  have hzs := dpa_ints d4
  subst hzs
  have hfl := List.length_filter_le (fun c => PyData.eqv (natsD (fellowJ B c)) (natsD (fellowJ B c0))) sc
  refine ⟨j, q, _, rfl, ja3.ex e4, .inl (sq_of h4), by rw [List.length_map]; omega, fun l ys H5 hl hp5 h5 jx5 ja5 => ?_⟩
  obtain ⟨ms, rfl, hms⟩ := perm_ints hp5
  have hml : ms.length ≤ sc.length := by rw [hms.length_eq]; exact hfl
  have hc0m : c0 ∈ ms := hms.mem_iff.mpr (List.mem_filter.mpr ⟨List.mem_of_getElem? hc0, (eqv_tupled _ _ (tupled_nats _) (tupled_nats _)).mpr rfl⟩)
  have hm1 : 1 ≤ ms.length := List.length_pos_of_mem hc0m
  have hmd : ms.Nodup := hms.nodup_iff.mpr (hs3.filter _)
  have hlj := (ja3.ex e4).ne hl
  have pl : Dp K H5 (.ref l) (.list (ms.map PyData.int)) := .lst (.inl (.inl h5)) (ints_dpa ms)
  refine r_raw ⟨_, rfl, ej_take (K := K) (top := ms.length) rfl ja5 (eds_cons (ed_lenL (ed_var rfl pl)) eds_nil) hm1 (by omega) fun d6 H6 hd6 jx6 ja6 => ?_⟩
  refine ⟨1, d6, rfl, rfl, ⟨_, rfl, l, ms.map V.int, rfl, sq_of (jx6 l _ hlj h5), fun q2 hq2 => ?_⟩⟩
  have e : (1 + (d6 : Int)) = ((1 + d6 : Nat) : Int) := by omega
  rw [e, cut_to, ← List.map_take]
  have jx0 : Jx j H H6 := (((jx1.trans (Jx.of e2)).trans jx3).trans (Jx.of e4)).trans (jx5.trans jx6)
  exact k q2 _ sc _ (jx0.back ja6 hq2) (jx0.trans (Jx.of (Ex.new hq2))) (ja6.ex (Ex.new hq2)) upd_same hscB (hmd.sublist (List.take_sublist _ _)) (by rw [List.length_take]; omega) (by rw [List.length_take]; omega) (fun c hc => (List.mem_filter.mp (hms.mem_iff.mp (List.mem_of_mem_take hc))).1)
end
end BB
/-! L18: glued. -/
namespace BB
open PySem L2 Evl LamX
/-- rising columns from lo below hi, one to three -/
def GluS (lo hi : Int) (s : List Int) : Prop := s.Pairwise (· < ·) ∧ (∀ c ∈ s, lo ≤ c ∧ c < hi) ∧ 1 ≤ s.length ∧ s.length ≤ 3
theorem GluS.mono {lo hi lo' hi' : Int} {s : List Int} (h : GluS lo hi s) (h1 : lo' ≤ lo) (h2 : hi ≤ hi') : GluS lo' hi' s := ⟨h.1, fun c hc => by have := h.2.1 c hc; omega, h.2.2⟩
theorem GluS.nodup {lo hi : Int} {s : List Int} (h : GluS lo hi s) : s.Nodup := h.1.imp fun h => by show _ ≠ _; omega
theorem SchV.mono {W W' : List Int → Prop} {v : V} {H : Hp} (h : SchV W v H) (hw : ∀ s, W s → W' s) : SchV W' v H := let ⟨p, s, h1, h2, h3⟩ := h; ⟨p, s, h1, h2, hw s h3⟩
theorem ren_ok {prs : List (Int × Int)} {lo mid hi : Int} {s : List Int} (h1 : (prs.map (·.1)).Nodup) (h2 : (prs.map (·.2)).Nodup) (h3 : ∀ p ∈ prs, lo ≤ p.2 ∧ p.2 < mid) (hs : GluS mid hi s) (h0 : lo ≤ mid) (hm : mid ≤ hi) : GluS lo hi (srtI (s.map (renF prs))) := by
  have old : ∀ c, c ∈ prs.map (·.1) → ∃ p ∈ prs, p.1 = c ∧ renF prs c = p.2 := fun c hc => by
    obtain ⟨p, hp, rfl⟩ := List.mem_map.mp hc
    exact ⟨p, hp, rfl, renF_mem h1 p hp⟩
  have nd : (s.map (renF prs)).Nodup := by
    unfold List.Nodup
    rw [List.pairwise_map]
    refine hs.nodup.imp_of_mem fun {a b} ha hb hab e => ?_
    have a1 := hs.2.1 a ha
    have b1 := hs.2.1 b hb
    by_cases qa : a ∈ prs.map (·.1)
    · obtain ⟨p, hp, hpa, ea⟩ := old a qa
      have := h3 p hp
      by_cases qb : b ∈ prs.map (·.1)
      · obtain ⟨p', hp', hpb, eb⟩ := old b qb
        have e2 : p.2 = p'.2 := by rw [← ea, ← eb]; exact e
        obtain ⟨i, hi⟩ := List.getElem?_of_mem hp
        obtain ⟨i', hi'⟩ := List.getElem?_of_mem hp'
        have j1 : (prs.map (·.2))[i]? = some p.2 := by rw [List.getElem?_map, hi]; rfl
        have j2 : (prs.map (·.2))[i']? = some p.2 := by rw [List.getElem?_map, hi', e2]; rfl
        have il := (List.getElem?_eq_some_iff.mp j1).1
        have hii : i = i' := (List.getElem?_inj il h2).mp (j1.trans j2.symm)
        subst hii
        rw [hi] at hi'
        cases hi'
        exact hab (hpa.symm.trans hpb)
      · rw [ea, renF_not qb] at e
        omega
    · rw [renF_not qa] at e
      by_cases qb : b ∈ prs.map (·.1)
      · obtain ⟨p', hp', hpb, eb⟩ := old b qb
        have := h3 p' hp'
        rw [eb] at e
        omega
      · rw [renF_not qb] at e
        exact hab e
  refine ⟨lt_of_le_nodup (srtI_le _) ((srtI_perm _).nodup_iff.mpr nd), fun c hc => ?_, by rw [(srtI_perm _).length_eq, List.length_map]; exact hs.2.2.1, by rw [(srtI_perm _).length_eq, List.length_map]; exact hs.2.2.2⟩
  obtain ⟨a, ha, rfl⟩ := List.mem_map.mp ((srtI_perm _).mem_iff.mp hc)
  have a1 := hs.2.1 a ha
  by_cases qa : a ∈ prs.map (·.1)
  · obtain ⟨p, hp, hpa, ea⟩ := old a qa
    have := h3 p hp
    rw [ea]
    omega
  · rw [renF_not qa]
    omega
section
variable {P : Program} {w : World} {K : PySem.W.Frag} {mg : Str → Option Value} {base : Heap}
def GlSp (n : Nat) : Sp := fun vs H Q _ => ∃ (j : Addr) (size : Nat) (lo : Int), vs = [.ref j, .int (size : Int), .int lo] ∧ 1 ≤ size ∧ size ≤ n ∧ n ≤ 100 ∧ JarAt H j ∧
  ∀ (t l : Addr) (xs : List V) (e : Int) (H' : Hp), Jx j H H' → JarAt H' j → Rd H' t (.tup [.ref l, .int e]) → H l = none → H' l = some (.lst xs) → xs.length = size → lo ≤ e → e ≤ lo + 3 * size → (∀ v ∈ xs, SchV (GluS lo e) v H') → Q (.ref t) H'
theorem sc__law_glued : FnScope ["_law_jar", "_law_size", "_law_begin", "_law_wide", "_law_c", "_law_low", "_law_one_here", "_law_later", "_law_two", "_law_end", "_law_first", "_law_second", "_law_k"] ["_law_jar", "_law_size", "_law_begin"] (defScope st__law_glued) := ⟨rfl, rfl, rfl, by decide +kernel, rfl, by decide +kernel, by decide +kernel⟩
theorem tup_c {σ : L2.St} {H : Hp} {Q : VK} {ta : TE} {tl : TA} (h : ta σ H fun x H1 => tl σ H1 fun xs H2 => (x :: xs).length ≤ sizeLine ∧ ∀ p, H2 p = none → Q (.ref p) (upd H2 p (.tup (x :: xs)))) : tTup (tCons ta tl) σ H Q := h
theorem lst_1 {σ : L2.St} {H : Hp} {Q : VK} {ta : TE} (h : ta σ H fun x H1 => [x].length ≤ sizeLine ∧ ∀ p, H1 p = none → Q (.ref p) (upd H1 p (.lst [x]))) : tLst (tCons ta tNil) σ H Q := h
theorem vs3 {j : Addr} {a b c : Int} (h : a = b) : [V.ref j, V.int a, V.int c] = [V.ref j, V.int b, V.int c] := by rw [h]
theorem okn__law_glued (T : Txt K mg) : ∀ n, FnOk P w K mg base CX0 (n + 4) T.d__law_glued.f T.d__law_glued.fd ["_law_jar", "_law_size", "_law_begin"] (GlSp n) := by
  intro n
  induction n with
  | zero =>
    refine T.d__law_glued.F.ok sc__law_glued ?len0 (fun cdv A outer s H vs Q E hr h => ?_)
    case len0 =>
      rintro vs H Q E ⟨j, wd, mo, rfl, _⟩
      rfl
    obtain ⟨j, sz, lo, rfl, hs1, hs2, _⟩ := h
    exfalso
    omega
  | succ n ih =>
  refine T.d__law_glued.F.ok sc__law_glued ?len (fun cdv A outer s H vs Q E hr h => ?_)
  case len =>
    rintro vs H Q E ⟨j, wd, mo, rfl, _⟩
    rfl
  obtain ⟨j, sz, lo, rfl, hs1, hs2, hn, hj, k⟩ := h
  refine ⟨_, (pss_cons (ps_if (pt_cmpR op_eq (pv 1) pe_int (nomark _))
      (pss_cons (ps_set (i := 3) sc__law_glued.nd rfl (by first | exact Or.inl rfl | exact Or.inr rfl) (pe_op op_add pe_int (pe_call (ok__law_take (P := P) (w := w) T) (hr.mono (by omega)) (by rfl) T.d__law_take.g T.d__law_take.F.kp T.d__law_take.b .nil pass0 (pa_cons (pv 0) (pa_cons pe_int pa_nil)))))
        (pss_one (ps_ret (pe_tup (pa_cons (pe_lst (pa_cons (pe_callTy (tupNK (K := K)) (by rfl) T.b_tuple (by decide +kernel) (pa_cons (pe_lc (own := [("_law_c", 4)]) rfl sc__law_glued.nd (pi_range1 (by rfl) T.b_range (pa_cons (pv 3) pa_nil)) (blkOk_by (own := [("_law_c", 4)]) (N := ["_law_jar", "_law_size", "_law_begin", "_law_wide", "_law_c", "_law_low", "_law_one_here", "_law_later", "_law_two", "_law_end", "_law_first", "_law_second", "_law_k"]) (sc := defScope st__law_glued) (by decide +kernel)) (fun _ _ _ _ _ => (pg_name (i := 4) sc__law_glued.nd rfl (by first | exact Or.inl rfl | exact Or.inr rfl))) (fun _ _ _ _ _ => pts_nil) (fun _ _ _ _ _ => (pe_op op_add (pv 2) (pv 4)))) pa_nil)) pa_nil)) (pa_cons (pe_op op_add (pv 2) (pv 3)) pa_nil))))))
      pss_nil)
      (pss_cons (ps_set (i := 5) sc__law_glued.nd rfl (by first | exact Or.inl rfl | exact Or.inr rfl) (pe_op op_add pe_int (pe_call (ok__law_take (P := P) (w := w) T) (hr.mono (by omega)) (by rfl) T.d__law_take.g T.d__law_take.F.kp T.d__law_take.b .nil pass0 (pa_cons (pv 0) (pa_cons (pe_op op_sub (pv 1) pe_int) pa_nil)))))
      (pss_cons (ps_asg (pe_call ih (hr.mono (by omega)) (by rfl) T.d__law_glued.g T.d__law_glued.F.kp T.d__law_glued.b .nil pass0 (pa_cons (pv 0) (pa_cons (pv 5) (pa_cons (pv 2) pa_nil)))) (pgTK (K := K) (n := 2) rfl (pgs_cons (pg_name (i := 6) sc__law_glued.nd rfl (by first | exact Or.inl rfl | exact Or.inr rfl)) (pgs_cons (pg_name (i := 7) sc__law_glued.nd rfl (by first | exact Or.inl rfl | exact Or.inr rfl)) pgs_nil))))
      (pss_cons (ps_asg (pe_call ih (hr.mono (by omega)) (by rfl) T.d__law_glued.g T.d__law_glued.F.kp T.d__law_glued.b .nil pass0 (pa_cons (pv 0) (pa_cons (pe_op op_sub (pv 1) (pv 5)) (pa_cons (pv 7) pa_nil)))) (pgTK (K := K) (n := 2) rfl (pgs_cons (pg_name (i := 8) sc__law_glued.nd rfl (by first | exact Or.inl rfl | exact Or.inr rfl)) (pgs_cons (pg_name (i := 9) sc__law_glued.nd rfl (by first | exact Or.inl rfl | exact Or.inr rfl)) pgs_nil))))
      (pss_cons (ps_asg (pe_tup (pa_cons (pe_call (ok__law_same_columns (P := P) (w := w) T) (hr.mono (by omega)) (by rfl) T.d__law_same_columns.g T.d__law_same_columns.F.kp T.d__law_same_columns.b .nil pass0 (pa_cons (pv 0) (pa_cons (pv 6) pa_nil))) (pa_cons (pe_call (ok__law_same_columns (P := P) (w := w) T) (hr.mono (by omega)) (by rfl) T.d__law_same_columns.g T.d__law_same_columns.F.kp T.d__law_same_columns.b .nil pass0 (pa_cons (pv 0) (pa_cons (pv 8) pa_nil))) pa_nil))) (pgTK (K := K) (n := 2) rfl (pgs_cons (pg_name (i := 10) sc__law_glued.nd rfl (by first | exact Or.inl rfl | exact Or.inr rfl)) (pgs_cons (pg_name (i := 11) sc__law_glued.nd rfl (by first | exact Or.inl rfl | exact Or.inr rfl)) pgs_nil))))
      (pss_cons (ps_set (i := 3) sc__law_glued.nd rfl (by first | exact Or.inl rfl | exact Or.inr rfl) (pe_callB (call_min2 rfl) (by rfl) T.b_min (by decide +kernel) (pa_cons (pe_callB (lenK (K := K)) (by rfl) T.b_len (by decide +kernel) (pa_cons (pv 10) pa_nil)) (pa_cons (pe_callB (lenK (K := K)) (by rfl) T.b_len (by decide +kernel) (pa_cons (pv 11) pa_nil)) pa_nil))))
      (pss_one (ps_ret (pe_tup (pa_cons (pe_op op_cat (pv 6) (pe_call (ok__law_called (P := P) (w := w) T) (hr.mono (by omega)) (by rfl) T.d__law_called.g T.d__law_called.F.kp T.d__law_called.b .nil pass0 (pa_cons (pv 8) (pa_cons (pe_lc (own := [("_law_k", 12)]) rfl sc__law_glued.nd (pi_range1 (by rfl) T.b_range (pa_cons (pv 3) pa_nil)) (blkOk_by (own := [("_law_k", 12)]) (N := ["_law_jar", "_law_size", "_law_begin", "_law_wide", "_law_c", "_law_low", "_law_one_here", "_law_later", "_law_two", "_law_end", "_law_first", "_law_second", "_law_k"]) (sc := defScope st__law_glued) (by decide +kernel)) (fun _ _ _ _ _ => (pg_name (i := 12) sc__law_glued.nd rfl (by first | exact Or.inl rfl | exact Or.inr rfl))) (fun _ _ _ _ _ => pts_nil) (fun _ _ _ _ _ => (pe_tup (pa_cons (pe_ix (ixLK (K := K)) (pv 11) (pv 12) (fun _ _ => rfl)) (pa_cons (pe_ix (ixLK (K := K)) (pv 10) (pv 12) (fun _ _ => rfl)) pa_nil))))) pa_nil)))) (pa_cons (pv 9) pa_nil))))))))))), ?_⟩
  refine q_whenD (x := decide ((sz : Int) = 1)) (et_B (ed_op (ed_var (K := K) rfl (.int _)) ed_int rd_eqI)) (fun hx H1 e1 => ?_) (fun hx H1 e1 => ?_)
  · have hsz : sz = 1 := by have := of_decide_eq_true hx; omega
    subst hsz
    have hj1 := hj.ex e1
    refine q_asgR (ej_take (K := K) (top := 3) rfl hj1 (eds_cons ed_int eds_nil) (by omega) (by omega) fun d H2 hd jx2 ja2 => ⟨1, d, rfl, rfl, ?_⟩)
    have e : (1 + (d : Int)) = ((1 + d : Nat) : Int) := by omega
    dsimp only
    rw [e]
    refine r_raw (tup_c (lst_1 (cb1 ?_)))
    refine el_lcY (K := K) (xs := List.range (1 + d)) (enc := fun (i : Nat) => PyData.int (i : Int)) (w := fun (i : Nat) => PyData.int (lo + (i : Int))) (fun H3 e3 => ei_rng (eds_cons (ed_var rfl (.int _)) eds_nil) (by omega)) (by rw [List.length_range]; omega) (fun _ _ => rfl) (fun _ => rfl) (fun i u H3 hi e3 pu => ed_op (ed_var rfl (.int _)) (ed_var rfl pu) rd_add) H2 (Ex.refl _) _ fun p zs H3 hp e3 h3 d3 => ?_
    have ez : (List.range (1 + d)).map (fun (i : Nat) => PyData.int (lo + (i : Int))) = ((List.range (1 + d)).map fun (i : Nat) => lo + (i : Int)).map PyData.int := by rw [List.map_map]; rfl
    rw [ez] at d3
    have hzs := dpa_ints d3
    subst hzs
    refine rn_new (sq_of h3) fun q H4 hq e4 hs4 => ⟨by show 1 ≤ sizeLine; exact sz_of (by decide), fun l hl => ⟨_, rfl, _, rfl, lo, _, rfl, rfl, ⟨by show 2 ≤ sizeLine; exact sz_of (by decide), fun t ht => ?_⟩⟩⟩
    have jx4 : Jx j H H4 := ((Jx.of e1).trans jx2).trans ((Jx.of e3).trans (Jx.of e4))
    have ja4 := (ja2.ex e3).ex e4
    have e5 := Ex.new (o := .lst [.ref q]) hl
    have e6 := Ex.new (o := .tup [.ref l, .int (lo + ((1 + d : Nat) : Int))]) ht
    refine k t l [.ref q] (lo + ((1 + d : Nat) : Int)) _ (jx4.trans ((Jx.of e5).trans (Jx.of e6))) ((ja4.ex e5).ex e6) (.inl upd_same) (jx4.back ja4 hl) (e6 _ _ upd_same) rfl (by omega) (by omega) (fun v hv => ?_)
    rw [List.mem_singleton.mp hv]
    refine ⟨q, _, rfl, (hs4.fk (FK.of_ex e5)).fk (FK.of_ex e6), ?_, fun c hc => ?_, by rw [List.length_map, List.length_range]; omega, by rw [List.length_map, List.length_range]; omega⟩
    · rw [List.pairwise_map]
      exact List.pairwise_lt_range.imp fun h => by omega
    · obtain ⟨i, hi, rfl⟩ := List.mem_map.mp hc
      have := List.mem_range.mp hi
      omega
  · have hsz : sz ≠ 1 := fun z => by have := of_decide_eq_false hx; omega
    have hj1 := hj.ex e1
    have esub : (sz : Int) - 1 = ((sz - 1 : Nat) : Int) := by omega
    refine q_asgR (ej_take (K := K) (top := sz - 1) rfl hj1 (eds_cons ((ed_op (ed_var rfl (.int _)) ed_int rd_sub).is (congrArg PyData.int esub)) eds_nil) (by omega) (by omega) fun d H2 hd jx2 ja2 => ⟨1, d, rfl, rfl, ?_⟩)
    have e : (1 + (d : Int)) = ((1 + d : Nat) : Int) := by omega
    dsimp only
    rw [e]
    refine q_asgG ⟨_, rfl, _, rfl, _, rfl, j, 1 + d, lo, rfl, by omega, by omega, by omega, ja2, fun t1 l1 xs1 m1 H3 jx3 ja3 ht1 hl1 h1 hx1 lo1 hi1 hS1 => ?_⟩
    refine eg_raw2 (K := K) (.inl ht1) ?_
    have esub2 : (sz : Int) - ((1 + d : Nat) : Int) = ((sz - (1 + d) : Nat) : Int) := by omega
    refine q_asgG ⟨_, rfl, ⟨_, rfl, _, rfl, _, _, rfl, rfl, ⟨_, rfl, j, sz - (1 + d), m1, vs3 esub2, by omega, by omega, by omega, ja3, fun t2 l2 xs2 m2 H4 jx4 ja4 ht2 hl2 h2 hx2 lo2 hi2 hS2 => ?_⟩⟩⟩
    refine eg_raw2 (K := K) (.inl ht2) ?_
    have hl1j : l1 ≠ j := ja2.ne hl1
    have hl2j : l2 ≠ j := ja3.ne hl2
    have h14 := jx4 l1 _ hl1j h1
    have f4 := jx4.fk ja3
    obtain ⟨B1, b1, b2, b3⟩ := schvs_dp (K := K) fun v hv => (hS1 v hv).fk f4
    obtain ⟨B2, b4, b5, b6⟩ := schvs_dp (K := K) hS2
    refine q_asgG ⟨_, rfl, _, rfl, j, l1, xs1, B1, rfl, ja4, hl1j, h14, b3, by omega, by omega, fun s hs => ⟨(b2 s hs).2.2.1, by have := (b2 s hs).2.2.2; omega, (b2 s hs).nodup⟩, fun lf cf sf H5 hlf jx5 ja5 h5 hsf cfn cf1 cf2 cfs => ?_⟩
    have h25 := jx5 l2 _ hl2j h2
    have f5 := jx5.fk ja4
    have hst2 : stayAll (B2.map schD) = true := stayAll_map fun s _ => stay_sch s
    refine ⟨_, rfl, _, rfl, j, l2, xs2, B2, rfl, ja5, hl2j, h25, dpa_tk f5.1 _ _ hst2 b6, by omega, by omega, fun s hs => ⟨(b5 s hs).2.2.1, by have := (b5 s hs).2.2.2; omega, (b5 s hs).nodup⟩, fun ls cs ss H6 hls jx6 ja6 h6 hss csn cs1 cs2 css => ?_⟩
    refine ⟨by show 2 ≤ sizeLine; exact sz_of (by decide), fun pt hpt => eg_raw2 (K := K) (.inl (.inl upd_same)) ?_⟩
    have e7 := Ex.new (o := .tup [.ref lf, .ref ls]) hpt
    have hlfj := ja4.ne hlf
    have hlsj := ja5.ne hls
    have hlf7 := e7 _ _ (jx6 lf _ hlfj h5)
    have hls7 := e7 _ _ h6
    refine q_asgR ⟨_, rfl, lf, _, rfl, .inl (sq_of hlf7), ⟨_, rfl, ls, _, rfl, .inl (sq_of hls7), ⟨_, _, rfl, ?_⟩⟩⟩
    have emin : (if ((cs.map V.int).length : Int) < ((cf.map V.int).length : Int) then ((cs.map V.int).length : Int) else ((cf.map V.int).length : Int)) = ((min cs.length cf.length : Nat) : Int) := by
      rw [List.length_map, List.length_map]
      split <;> omega
    dsimp only
    rw [emin]
    have hcs3 := (b5 ss hss).2.2.2
    have hcf3 := (b2 sf hsf).2.2.2
    generalize hwd : min cs.length cf.length = wd
    have pcs : Dp K (upd H6 pt (.tup [.ref lf, .ref ls])) (.ref ls) (.list (cs.map PyData.int)) := .lst (.inl (.inl hls7)) (ints_dpa cs)
    have pcf : Dp K (upd H6 pt (.tup [.ref lf, .ref ls])) (.ref lf) (.list (cf.map PyData.int)) := .lst (.inl (.inl hlf7)) (ints_dpa cf)
    have gcs : ∀ i, i < wd → (cs.map PyData.int)[i]? = some (.int (cs.getD i 0)) := fun i hi => by
      rw [List.getElem?_map, List.getD_eq_getElem?_getD, List.getElem?_eq_getElem (by omega)]; rfl
    have gcf : ∀ i, i < wd → (cf.map PyData.int)[i]? = some (.int (cf.getD i 0)) := fun i hi => by
      rw [List.getElem?_map, List.getD_eq_getElem?_getD, List.getElem?_eq_getElem (by omega)]; rfl
    refine r_raw ⟨_, rfl, ⟨_, rfl, ?_⟩⟩
    refine el_lcY (K := K) (xs := List.range wd) (enc := fun (i : Nat) => PyData.int (i : Int)) (w := fun (i : Nat) => ipD (cs.getD i 0, cf.getD i 0)) (fun H8 e8 => ei_rng (eds_cons (ed_var rfl (.int _)) eds_nil) (by omega)) (by rw [List.length_range]; omega) (fun _ _ => rfl) (fun _ => rfl) (fun i u H8 hi e8 pu => ?_) _ (Ex.refl _) _ fun pp zs H8 hpp e8 h8 d8 => ?_
    · have hi := List.mem_range.mp hi
      exact ed_tup (eds_cons (ed_op (ed_var rfl (pcs.ex e8)) (ed_var rfl pu) (rd_ixL (gcs i hi))) (eds_cons (ed_op (ed_var rfl (pcf.ex e8)) (ed_var rfl pu) (rd_ixL (gcf i hi))) eds_nil)) (by show 2 ≤ 100000; omega)
    have e78 := e7.trans e8
    have f6 := jx6.fk ja5
    have px8 : DpAll K H8 xs2 (B2.map schD) := (dpa_tk (f5.trans f6).1 _ _ hst2 b6).ex e78
    have h28 := e78 _ _ (jx6 l2 _ hl2j h25)
    have h18 := e78 _ _ (jx6 l1 _ hl1j (jx5 l1 _ hl1j h14))
    have emap : (List.range wd).map (fun (i : Nat) => ipD (cs.getD i 0, cf.getD i 0)) = ((List.range wd).map fun (i : Nat) => (cs.getD i 0, cf.getD i 0)).map ipD := by rw [List.map_map]; rfl
    rw [emap] at d8
    have eo : ((List.range wd).map fun (i : Nat) => (cs.getD i 0, cf.getD i 0)).map (·.1) = cs.take wd := by
      rw [List.map_map]
      refine List.ext_getElem (by rw [List.length_map, List.length_range, List.length_take]; omega) fun i g1 g2 => ?_
      rw [List.length_map, List.length_range] at g1
      rw [List.getElem_map, List.getElem_range, List.getElem_take]
      show cs.getD i 0 = _
      rw [List.getD_eq_getElem?_getD, List.getElem?_eq_getElem (by omega)]; rfl
    have en : ((List.range wd).map fun (i : Nat) => (cs.getD i 0, cf.getD i 0)).map (·.2) = cf.take wd := by
      rw [List.map_map]
      refine List.ext_getElem (by rw [List.length_map, List.length_range, List.length_take]; omega) fun i g1 g2 => ?_
      rw [List.length_map, List.length_range] at g1
      rw [List.getElem_map, List.getElem_range, List.getElem_take]
      show cf.getD i 0 = _
      rw [List.getD_eq_getElem?_getD, List.getElem?_eq_getElem (by omega)]; rfl
    generalize hprs : ((List.range wd).map fun (i : Nat) => (cs.getD i 0, cf.getD i 0)) = prs at d8 eo en
    have hpl : prs.length ≤ 1000 := by rw [← hprs, List.length_map, List.length_range]; omega
    refine ⟨.ref l2, .ref pp, B2, prs, rfl, .lst (.inl (.inl h28)) px8, .lst (.inl (.inl h8)) d8, by omega, hpl, fun s hs => by have := (b5 s hs).2.2.2; omega, fun lc xs3 H9 hlc e9 h9 hlen9 hP => ?_⟩
    have h19 := e9 _ _ h18
    refine ⟨l1, lc, xs1, xs3, rfl, rfl, h19, h9, sz_of (by omega), fun p hp => ⟨_, rfl, by show 2 ≤ sizeLine; exact sz_of (by decide), fun t ht => ?_⟩⟩
    have eA := Ex.new (o := .lst (xs1 ++ xs3)) hp
    have eB := Ex.new (o := .tup [.ref p, .int m2]) ht
    have jx9 : Jx j H H9 := (((Jx.of e1).trans jx2).trans (jx3.trans jx4)).trans ((jx5.trans jx6).trans ((Jx.of e78).trans (Jx.of e9)))
    have ja9 := (ja6.ex e78).ex e9
    refine k t p (xs1 ++ xs3) m2 _ (jx9.trans ((Jx.of eA).trans (Jx.of eB))) ((ja9.ex eA).ex eB) (.inl upd_same) (jx9.back ja9 hp) (eB _ _ upd_same) (by rw [List.length_append]; omega) (by omega) (by omega) (fun v hv => ?_)
    have fE := (FK.of_ex eA).trans (FK.of_ex eB)
    rcases List.mem_append.mp hv with hv | hv
    · have fA := ((f4.trans (f5.trans f6)).trans ((FK.of_ex e78).trans (FK.of_ex e9))).trans fE
      exact ((hS1 v hv).fk fA).mono fun s hs => hs.mono (Int.le_refl _) lo2
    · refine ((hP v hv).fk fE).mono fun s hs => ?_
      obtain ⟨s0, hs0, rfl⟩ := hs
      refine ren_ok (mid := m1) (by rw [eo]; exact csn.sublist (List.take_sublist _ _)) (by rw [en]; exact cfn.sublist (List.take_sublist _ _)) (fun q hq => ?_) (b5 s0 hs0) lo1 lo2
      have : q.2 ∈ prs.map (·.2) := List.mem_map.mpr ⟨q, hq, rfl⟩
      rw [en] at this
      exact (b2 sf hsf).2.1 _ (cfs _ (List.mem_of_mem_take this))
end
end BB
/-! L19: ringless books, some book. -/
namespace BB
open PySem L2 Evl LamX
section
variable {P : Program} {w : World} {K : PySem.W.Frag} {mg : Str → Option Value} {base : Heap}
theorem ok__law_glued (T : Txt K mg) : FnOk P w K mg base CX0 8 T.d__law_glued.f T.d__law_glued.fd ["_law_jar", "_law_size", "_law_begin"] (GlSp 4) := okn__law_glued T 4
theorem map_nodup {ms s : List Int} (hm : ms.Nodup) (hs : s.Nodup) (hb : ∀ c ∈ s, 0 ≤ c ∧ c < (ms.length : Int)) : (s.map fun c => ms.getD c.toNat 0).Nodup := by
  unfold List.Nodup
  rw [List.pairwise_map]
  refine List.Pairwise.imp_of_mem (fun {a b} ha hb' hab e => ?_) hs
  have a1 := hb a ha
  have b1 := hb b hb'
  rw [List.getD_eq_getElem?_getD, List.getD_eq_getElem?_getD, List.getElem?_eq_getElem (by omega), List.getElem?_eq_getElem (by omega)] at e
  have e : ms[a.toNat]'(by omega) = ms[b.toNat]'(by omega) := e
  have := (List.getElem?_inj (by omega) hm).mp (show ms[a.toNat]? = ms[b.toNat]? by rw [List.getElem?_eq_getElem (by omega), List.getElem?_eq_getElem (by omega), e])
  exact hab (by omega)
theorem sc__law_ringless_book : FnScope ["_law_jar", "_law_most", "_law_schemes", "_law_end", "_law_ids", "_law_c", "_law_found", "_law_scheme_here"] ["_law_jar", "_law_most"] (defScope st__law_ringless_book) := ⟨rfl, rfl, rfl, by decide +kernel, rfl, by decide +kernel, by decide +kernel⟩
def BkMSp : Sp := fun vs H Q _ => ∃ (j : Addr) (most : Nat), vs = [.ref j, .int (most : Int)] ∧ JarAt H j ∧ 1 ≤ most ∧ most ≤ 4 ∧ BookK j H Q
theorem ok__law_ringless_book (T : Txt K mg) : FnOk P w K mg base CX0 9 T.d__law_ringless_book.f T.d__law_ringless_book.fd ["_law_jar", "_law_most"] BkMSp := by
  refine T.d__law_ringless_book.F.ok sc__law_ringless_book ?len (fun cdv A outer s H vs Q E hr h => ?_)
  case len =>
    rintro vs H Q E ⟨j, mo, rfl, _⟩
    rfl
  obtain ⟨j, mo, rfl, hj, m1, m2, k⟩ := h
  refine ⟨_, (pss_cons (ps_asg (pe_call (ok__law_glued (P := P) (w := w) T) (hr.mono (by decide)) (by rfl) T.d__law_glued.g T.d__law_glued.F.kp T.d__law_glued.b .nil pass0 (pa_cons (pv 0) (pa_cons (pe_op op_add pe_int (pe_call (ok__law_take (P := P) (w := w) T) (hr.mono (by decide)) (by rfl) T.d__law_take.g T.d__law_take.F.kp T.d__law_take.b .nil pass0 (pa_cons (pv 0) (pa_cons (pv 1) pa_nil)))) (pa_cons pe_int pa_nil)))) (pgTK (K := K) (n := 2) rfl (pgs_cons (pg_name (i := 2) sc__law_ringless_book.nd rfl (by first | exact Or.inl rfl | exact Or.inr rfl)) (pgs_cons (pg_name (i := 3) sc__law_ringless_book.nd rfl (by first | exact Or.inl rfl | exact Or.inr rfl)) pgs_nil))))
      (pss_cons (ps_set (i := 4) sc__law_ringless_book.nd rfl (by first | exact Or.inl rfl | exact Or.inr rfl) (pe_call (ok__law_mixed (P := P) (w := w) T) (hr.mono (by decide)) (by rfl) T.d__law_mixed.g T.d__law_mixed.F.kp T.d__law_mixed.b .nil pass0 (pa_cons (pv 0) (pa_cons (pe_lc (own := [("_law_c", 5)]) rfl sc__law_ringless_book.nd (pi_range1 (by rfl) T.b_range (pa_cons pe_int pa_nil)) (blkOk_by (own := [("_law_c", 5)]) (N := ["_law_jar", "_law_most", "_law_schemes", "_law_end", "_law_ids", "_law_c", "_law_found", "_law_scheme_here"]) (sc := defScope st__law_ringless_book) (by decide +kernel)) (fun _ _ _ _ _ => (pg_name (i := 5) sc__law_ringless_book.nd rfl (by first | exact Or.inl rfl | exact Or.inr rfl))) (fun _ _ _ _ _ => pts_nil) (fun _ _ _ _ _ => (pv 5))) pa_nil))))
      (pss_cons (ps_setLc (i := 6) (own := [("_law_scheme_here", 7)]) rfl sc__law_ringless_book.nd rfl rfl (sw_true rfl rfl rfl (by decide +kernel)) (piLK (K := K) (pv 2)) (blkOk_by (own := [("_law_scheme_here", 7)]) (N := ["_law_jar", "_law_most", "_law_schemes", "_law_end", "_law_ids", "_law_c", "_law_found", "_law_scheme_here"]) (sc := defScope st__law_ringless_book) (by decide +kernel)) (fun _ _ _ _ _ => (pg_name (i := 7) sc__law_ringless_book.nd rfl (by first | exact Or.inl rfl | exact Or.inr rfl))) (fun _ _ _ _ _ => pts_nil) (fun _ _ _ _ _ => (pe_callTy (tupNK (K := K)) (by rfl) T.b_tuple (by decide +kernel) (pa_cons (pe_callB (srtK (K := K)) (by rfl) T.b_sorted (by decide +kernel) (pa_cons (pe_lc (own := [("_law_c", 5)]) rfl sc__law_ringless_book.nd (piTK (K := K) (pv 7)) (blkOk_by (own := [("_law_c", 5)]) (N := ["_law_jar", "_law_most", "_law_schemes", "_law_end", "_law_ids", "_law_c", "_law_found", "_law_scheme_here"]) (sc := (relabel _ _)) (by rfl)) (fun _ _ _ _ _ => (pg_name (i := 5) sc__law_ringless_book.nd rfl (by first | exact Or.inl rfl | exact Or.inr rfl))) (fun _ _ _ _ _ => pts_nil) (fun _ _ _ _ _ => (pe_ix (ixLK (K := K)) (pv 4) (pv 5) (fun _ _ => rfl)))) pa_nil)) pa_nil))))
      (pss_one (ps_ret (pe_callTy (tupK (K := K)) (by rfl) T.b_tuple (by decide +kernel) (pa_cons (pe_call (ok__law_mixed (P := P) (w := w) T) (hr.mono (by decide)) (by rfl) T.d__law_mixed.g T.d__law_mixed.F.kp T.d__law_mixed.b .nil pass0 (pa_cons (pv 0) (pa_cons (pv 6) pa_nil))) pa_nil))))))), ?_⟩
  refine q_asgG ⟨_, rfl, ej_take (K := K) (top := mo) rfl hj (eds_cons (ed_var rfl (.int _)) eds_nil) m1 (by omega) fun d H1 hd jx1 ja1 => ⟨1, d, rfl, rfl, ⟨j, 1 + d, 0, vs3 (by omega), by omega, by omega, by omega, ja1, fun t l xs e H2 jx2 ja2 ht hl h2 hxs lo hi hS => ?_⟩⟩⟩
  refine eg_raw2 (K := K) (.inl ht) ?_
  have hlj := ja1.ne hl
  refine q_asgR ⟨_, rfl, el_rng (K := K) (n := 24) (eds_cons ed_int eds_nil) (by omega) (fun _ => rfl) (fun _ => rfl) H2 (Ex.refl _) _ fun p ys H3 hp e3 h3 d3 => ?_⟩
  have hx := dpa_ints d3
  subst hx
  refine ⟨j, p, _, rfl, ja2.ex e3, .inl (sq_of h3), by decide, fun a ys H4 ha hp4 h4 jx4 ja4 => ?_⟩
  obtain ⟨ms, rfl, hms⟩ := perm_ints hp4
  have hlen : ms.length = 24 := by rw [hms.length_eq]; rfl
  have hmd : ms.Nodup := hms.nodup_iff.mpr (rgI_ok 24).1
  have hms24 : ∀ c ∈ ms, 0 ≤ c ∧ c < 24 := fun c hc => (rgI_ok 24).2 c |>.mp (hms.mem_iff.mp hc)
  have f4 := (FK.of_ex e3).trans (jx4.fk (ja2.ex e3))
  obtain ⟨S, b1, b2, b3⟩ := schvs_dp (K := K) fun v hv => (hS v hv).fk f4
  have h24 := jx4 l _ hlj (e3 _ _ h2)
  have ps : Dp K H4 (.ref l) (.list (S.map schD)) := .lst (.inl (.inl h24)) b3
  have pi : Dp K H4 (.ref a) (.list (ms.map PyData.int)) := .lst (.inl (.inl h4)) (ints_dpa ms)
  refine q_asgR (el_lcV (K := K) (ds := S.map schD) (P := SchV (SchP 24 8)) (ei_lst (ed_var rfl ps)) (by rw [List.length_map]; omega) (fun _ => rfl) (fun x H1 H2 f p => p.fk f) (fun i d' x H5 hd' e5 px Q' q => ?_) (fun m zs H5 hm e5 h5 hzl hP => ?_))
  · obtain ⟨sc, hsc, rfl⟩ := map_get hd'
    have hg := b2 sc (List.mem_of_getElem? hsc)
    have hg3 := hg.2.2.2
    have hb : ∀ c ∈ sc, 0 ≤ c ∧ c < (ms.length : Int) := fun c hc => by have := hg.2.1 c hc; omega
    refine en_srt (K := K) (ns := sc.map fun c => ms.getD c.toNat 0) (fun Q2 q2 => ?_) (fun l H6 hl e6 hs => q _ H6 e6 ⟨l, _, rfl, hs, srt_sch (map_nodup hmd hg.nodup hb) (fun x hx => ?_) (by rw [List.length_map]; exact hg.2.2.1) (by rw [List.length_map]; omega)⟩)
    · refine el_lcY (K := K) (xs := sc) (enc := PyData.int) (w := fun c => PyData.int (ms.getD c.toNat 0)) (fun H6 e6 => ei_tup (ed_var rfl (px.ex e6))) (by omega) (fun _ _ => rfl) (fun _ => rfl) (fun c u H6 hc e6 pu => ?_) H5 (Ex.refl _) _ fun p zs H6 hp e6 h6 d6 => ?_
      · have hcb := hb c hc
        have hce : c = ((c.toNat : Nat) : Int) := by omega
        refine ed_op (ed_var rfl ((pi.ex e5).ex e6)) ((ed_var rfl pu).is (congrArg PyData.int hce)) (rd_ixL ?_)
        rw [List.getElem?_map, List.getD_eq_getElem?_getD, List.getElem?_eq_getElem (by omega)]; rfl
      · have : zs = (sc.map fun c => ms.getD c.toNat 0).map V.int := by
          have e : (sc.map fun c => PyData.int (ms.getD c.toNat 0)) = (sc.map fun c => ms.getD c.toNat 0).map PyData.int := by rw [List.map_map]; rfl
          rw [e] at d6
          exact dpa_ints d6
        subst this
        exact q2 p H6 e6 (sq_of h6)
    · obtain ⟨c, hc, rfl⟩ := List.mem_map.mp hx
      have hcb := hb c hc
      rw [List.getD_eq_getElem?_getD, List.getElem?_eq_getElem (by omega)]
      exact hms24 _ (List.getElem_mem _)
  · rw [List.length_map] at hzl
    have ja5 := ja4.ex e5
    refine r_cb1 ⟨_, rfl, _, rfl, j, m, zs, rfl, ja5, .inl (sq_of h5), by omega, fun l' ws H6 hl' hp6 h6 jx6 ja6 => ⟨l', ws, rfl, .inl ⟨sq_of h6, fun b hb => ?_⟩⟩⟩
    have f6 := (jx6.fk ja5).trans (FK.new (o := .tup ws) hb)
    have hwl := hp6.length_eq
    obtain ⟨B, c1, c2, c3⟩ := bkn_of (a := b) (H := upd H6 b (.tup ws)) (fun v hv => (hP v (hp6.mem_iff.mp hv)).fk f6) (.inl upd_same)
    exact k _ B _ ((((jx1.trans jx2).trans (Jx.of e3)).trans jx4).trans (((Jx.of e5).trans jx6).trans (Jx.of (Ex.new hb)))) (ja6.ex (Ex.new hb)) c1 ⟨by omega, by omega, c3⟩
theorem sc__law_some_book : FnScope ["_law_jar", "_law_most", "_law_drawn"] ["_law_jar", "_law_most"] (defScope st__law_some_book) := ⟨rfl, rfl, rfl, by decide +kernel, rfl, by decide +kernel, by decide +kernel⟩
def Bk4Sp : Sp := fun vs H Q _ => ∃ (j : Addr), vs = [.ref j, .int 4] ∧ JarAt H j ∧ BookK j H Q
theorem BookK.jx {j : Addr} {H H' : Hp} {Q : VK} (k : BookK j H Q) (jx : Jx j H H') : BookK j H' Q := fun v B H2 jx2 => k v B H2 (jx.trans jx2)
theorem ok__law_some_book (T : Txt K mg) : FnOk P w K mg base CX0 10 T.d__law_some_book.f T.d__law_some_book.fd ["_law_jar", "_law_most"] Bk4Sp := by
  refine T.d__law_some_book.F.ok sc__law_some_book ?len (fun cdv A outer s H vs Q E hr h => ?_)
  case len =>
    rintro vs H Q E ⟨j, rfl, _⟩
    rfl
  obtain ⟨j, rfl, hj, k⟩ := h
  refine ⟨_, (pss_cons (ps_set (i := 2) sc__law_some_book.nd rfl (by first | exact Or.inl rfl | exact Or.inr rfl) (pe_call (ok__law_take (P := P) (w := w) T) (hr.mono (by decide)) (by rfl) T.d__law_take.g T.d__law_take.F.kp T.d__law_take.b .nil pass0 (pa_cons (pv 0) (pa_cons pe_int pa_nil))))
      (pss_cons (ps_if (pt_cmpR op_lt (pv 2) pe_int (nomark _))
      (pss_one (ps_ret (pe_call (ok__law_ringless_book (P := P) (w := w) T) (hr.mono (by decide)) (by rfl) T.d__law_ringless_book.g T.d__law_ringless_book.F.kp T.d__law_ringless_book.b .nil pass0 (pa_cons (pv 0) (pa_cons (pv 1) pa_nil)))))
      pss_nil)
      (pss_one (ps_ret (pe_ifExp (pt_cmpR op_eq (pv 2) pe_int (nomark _)) (pe_call (ok__law_ring_book (P := P) (w := w) T) (hr.mono (by decide)) (by rfl) T.d__law_ring_book.g T.d__law_ring_book.F.kp T.d__law_ring_book.b .nil pass0 (pa_cons (pv 0) (pa_cons (pe_callB (call_max2 rfl) (by rfl) T.b_max (by decide +kernel) (pa_cons pe_int (pa_cons (pe_op op_sub (pv 1) pe_int) pa_nil))) pa_nil))) (pe_call (ok__law_hung_book (P := P) (w := w) T) (hr.mono (by decide)) (by rfl) T.d__law_hung_book.g T.d__law_hung_book.F.kp T.d__law_hung_book.b .nil pass0 (pa_cons (pv 0) (pa_cons (pv 1) (pa_cons pe_int pa_nil))))))))), ?_⟩
  refine q_asgR (ej_take (K := K) (top := 4) rfl hj (eds_cons ed_int eds_nil) (by omega) (by omega) fun d H1 hd jx1 ja1 => ?_)
  refine q_whenD (x := decide ((d : Int) < 2)) (et_B (ed_op (ed_var (K := K) rfl (.int _)) ed_int rd_b)) (fun hx H2 e2 => ?_) (fun hx H2 e2 => ?_)
  · exact r_raw ⟨_, rfl, _, rfl, j, 4, rfl, ja1.ex e2, by omega, by omega, k.jx (jx1.trans (Jx.of e2))⟩
  · refine r_raw (et_B (x := decide ((d : Int) = 2)) (ed_op (ed_var (K := K) rfl (.int _)) ed_int rd_eqI) H2 (Ex.refl _) _ fun H3 e3 => ?_)
    have k3 := k.jx (jx1.trans ((Jx.of e2).trans (Jx.of e3)))
    have ja3 := (ja1.ex e2).ex e3
    cases hq : decide ((d : Int) = 2) with
    | true =>
      rw [if_pos rfl]
      exact ⟨_, rfl, ⟨_, rfl, 4, 1, rfl, rfl, ⟨3, _, rfl, ⟨j, rfl, ja3, k3⟩⟩⟩⟩
    | false =>
      rw [if_neg Bool.false_ne_true]
      exact ⟨_, rfl, _, rfl, j, 4, 6, rfl, ja3, by omega, by omega, by omega, by omega, k3⟩
end
end BB
/-! L20: pool. -/
namespace BB
open PySem L2 Evl LamX
section
variable {P : Program} {w : World} {K : PySem.W.Frag} {mg : Str → Option Value} {base : Heap}
theorem q_use {Φ : L2.St → Hp → Prop} {t tz : TS} {D : Ends} {σ : L2.St} {H : Hp} (kk : ∀ σ' H', Φ σ' H' → tz D σ' H') (h : (∀ σ' H', Φ σ' H' → tz D σ' H') → tSeq t tz D σ H) : tSeq t tz D σ H := h kk
theorem q_ifED {t : TT} {tu tw tz : TS} {D : Ends} {σ : L2.St} {H : Hp} {x : Bool} (h : EvT t σ H x) (h1 : x = true → ∀ H1, Ex H H1 → tu { D with nx := tz D } σ H1) (h2 : x = false → ∀ H1, Ex H H1 → tw { D with nx := tz D } σ H1) : tSeq (tIfS t tu tw) tz D σ H := s_ifD (D := { D with nx := tz D }) h h1 h2
theorem rcd_max {i j : Int} : RCD K (fun xs H Q => ∃ i j, xs = [.int i, .int j] ∧ Q (.int (if j > i then j else i)) H) [.int i, .int j] (.int (if j > i then j else i)) := fun H vs p Q q => by
  obtain ⟨x, y, rfl, px, py⟩ := dpa2 p
  cases dp_int px; cases dp_int py
  exact ⟨i, j, rfl, q _ H (Ex.refl _) (.int _)⟩
theorem rcd_intB {b : Bool} : RCD K (fun xs H Q => (∃ i, xs = [.int i] ∧ Q (.int i) H) ∨ ∃ k, xs = [.bl k] ∧ Q (.int (if k then 1 else 0)) H) [.bool b] (.int (if b then 1 else 0)) := fun H vs p Q q => by
  obtain ⟨x, rfl, px⟩ := dpa1 p
  cases dp_bl px
  exact .inr ⟨b, rfl, q _ H (Ex.refl _) (.int _)⟩
theorem rd_mulS {i j : Int} (h : -(2 ^ 64) < j ∧ j < 2 ^ 64) : RD K (rI CMul fun i j => .int (i * j)) (.int i) (.int j) (.int (i * j)) := fun H x y px py Q q => ⟨i, j, dp_int px, dp_int py, .inr h, q _ H (Ex.refl _) (.int _)⟩
theorem rd_pow {i j : Int} (h : CPow i j) : RD K (rI CPow fun i j => .int (i ^ j.toNat)) (.int i) (.int j) (.int (i ^ j.toNat)) := fun H x y px py Q q => ⟨i, j, dp_int px, dp_int py, h, q _ H (Ex.refl _) (.int _)⟩
def PoolSp (K : PySem.W.Frag) : Sp := fun vs H Q _ => ∃ (a : Addr) (ns : List Int) (k : Nat), vs = [.ref a, .int (k : Int)] ∧ SqL K H a (ns.map V.int) ∧ ns.length ≤ 1000 ∧ k ≤ 1000 ∧ ∀ p H', H p = none → Ex H H' → JarAt H' p → Q (.ref p) H'
theorem sc__law_pool : FnScope ["_law_script", "_law_k", "_law_cell", "_law_big", "_law_mixed_here"] ["_law_script", "_law_k"] (defScope st__law_pool) := ⟨rfl, rfl, rfl, by decide +kernel, rfl, by decide +kernel, by decide +kernel⟩
theorem ok__law_pool (T : Txt K mg) : FnOk P w K mg base CX0 1 T.d__law_pool.f T.d__law_pool.fd ["_law_script", "_law_k"] (PoolSp K) := by
  refine T.d__law_pool.F.ok sc__law_pool ?len (fun cdv A outer s H vs Q E hr h => ?_)
  case len =>
    rintro vs H Q E ⟨a, ns, k, rfl, _⟩
    rfl
  obtain ⟨a, ns, n, rfl, ha, hl, hn, k⟩ := h
  refine ⟨_, (pss_cons (ps_set (i := 2) sc__law_pool.nd rfl (by first | exact Or.inl rfl | exact Or.inr rfl) pe_int)
      (pss_cons (ps_if (pt_cmpR op_lt (pv 1) (pe_callB (lenK (K := K)) (by rfl) T.b_len (by decide +kernel) (pa_cons (pv 0) pa_nil)) (nomark _))
      (pss_one (ps_set (i := 2) sc__law_pool.nd rfl (by first | exact Or.inl rfl | exact Or.inr rfl) (pe_ix (ixLK (K := K)) (pv 0) (pv 1) (fun _ _ => rfl))))
      (pss_one (ps_if (pt_cmpR (neEK (K := K) hr) (pv 0) (pe_lst pa_nil) (nomark _))
        (pss_one (ps_set (i := 2) sc__law_pool.nd rfl (by first | exact Or.inl rfl | exact Or.inr rfl) (pe_ix (ixLK (K := K)) (pv 0) pe_int (fun _ _ => rfl))))
        pss_nil)))
      (pss_cons (ps_set (i := 3) sc__law_pool.nd rfl (by first | exact Or.inl rfl | exact Or.inr rfl) (pe_callB (call_max2 rfl) (by rfl) T.b_max (by decide +kernel) (pa_cons (pe_callTy call_int1 (by rfl) T.b_int (by decide +kernel) (pa_cons (pv 2) pa_nil)) (pa_cons (pe_callTy call_int1 (by rfl) T.b_int (by decide +kernel) (pa_cons (pe_op op_sub (pe_un un_neg pe_int) (pv 2)) pa_nil)) pa_nil))))
      (pss_cons (ps_set (i := 4) sc__law_pool.nd rfl (by first | exact Or.inl rfl | exact Or.inr rfl) (pe_op op_mod (pe_callTy call_int1 (by rfl) T.b_int (by decide +kernel) (pa_cons (pe_op op_mul (pe_op op_add (pe_op op_add (pe_op op_add (pe_op op_mod (pe_callTy call_int1 (by rfl) T.b_int (by decide +kernel) (pa_cons (pv 3) pa_nil)) pe_int) (pe_op op_mul (pe_op op_mul pe_int (pv 1)) (pv 1))) (pe_op op_mul pe_int (pv 1))) pe_int) pe_int) pa_nil)) pe_int))
      (pss_one (ps_ret (pe_lst (pa_cons (pe_op op_mul (pv 3) (pe_callTy call_int1 (by rfl) T.b_int (by decide +kernel) (pa_cons (pe_and (pe_cmpR op_ge (pv 3) (pe_op op_pow pe_int pe_int) (nomark _)) (pe_one (pe_cmpR op_lt (pv 1) (pe_callB (lenK (K := K)) (by rfl) T.b_len (by decide +kernel) (pa_cons (pv 0) pa_nil)) (nomark _)))) pa_nil))) (pa_cons (pv 4) pa_nil))))))))), ?_⟩
  have pa : Dp K H (.ref a) (.list (ns.map PyData.int)) := .lst ha (ints_dpa ns)
  refine q_asgD (K := K) ed_int (fun v H1 e1 pv => ?_)
  cases dp_int pv
  refine q_use (Φ := fun σ' H' => ∃ c : Int, σ' = [some (.ref a), some (.int (n : Int)), some (.int c), none, none] ∧ Ex H H') (fun σ' H2 z => ?_) (fun fin => ?_)
  · obtain ⟨c, rfl, e2⟩ := z
    refine q_asgD (K := K) (ed_cb (eds_cons (ed_cb (eds_cons (ed_var rfl (.int _)) eds_nil) rcd_int) (eds_cons (ed_cb (eds_cons (ed_op (ed_neg ed_int) (ed_var rfl (.int _)) rd_sub) eds_nil) rcd_int) eds_nil)) rcd_max) (fun v H3 e3 pv => ?_)
    cases dp_int pv
    have hbig : 0 ≤ (if -1 - c > c then -1 - c else c) := by split <;> omega
    generalize (if -1 - c > c then -1 - c else c) = big at hbig
    refine q_asgD (K := K) (ed_op (ed_cb (eds_cons (ed_op (ed_op (ed_op (ed_op (ed_op (ed_cb (eds_cons (ed_var rfl (.int _)) eds_nil) rcd_int) ed_int (rd_mod (by decide))) (ed_op (ed_op ed_int (ed_var rfl (.int _)) (rd_mulS (by omega))) (ed_var rfl (.int _)) (rd_mulS (by omega))) rd_add) (ed_op ed_int (ed_var rfl (.int _)) (rd_mulS (by omega))) rd_add) ed_int rd_add) ed_int (rd_mulS (by decide))) eds_nil) rcd_int) ed_int (rd_mod (by decide))) (fun v H4 e4 pv => ?_)
    cases dp_int pv
    have h1 : ∀ x : Int, 0 ≤ x % 2147483647 ∧ x % 2147483647 < 2147483647 := fun x => ⟨Int.emod_nonneg x (by decide), Int.emod_lt_of_pos x (by decide)⟩
    have pa4 := ((pa.ex e2).ex e3).ex e4
    have hint : ∀ b : Bool, -(2 ^ 64) < (if b then (1 : Int) else 0) ∧ (if b then (1 : Int) else 0) < 2 ^ 64 := fun b => by cases b <;> decide
    refine r_raw (el_lst (K := K) (eds_cons (ed_op (ed_var rfl (.int _)) (ed_cb (eds_cons (ed_and (ed_op (ed_var rfl (.int _)) (ed_op ed_int ed_int (rd_pow ⟨by decide, by decide, by decide⟩)) rd_b) (fun _ => ed_op (ed_var rfl (.int _)) (ed_lenL (xs := ns) (enc := PyData.int) (ed_var rfl pa4)) rd_b)) eds_nil) rcd_intB) (rd_mulS (hint _))) (eds_cons (ed_var rfl (.int _)) eds_nil)) (by show 2 ≤ 100000; omega) H4 (Ex.refl _) _ fun p xs H5 hp e5 h5 d5 => ?_)
    obtain ⟨u, v, rfl, pu, pv⟩ := dpa2 d5
    cases dp_int pu; cases dp_int pv
    exact k p H5 (fresh_back (e2.trans (e3.trans e4)) hp) ((e2.trans (e3.trans e4)).trans e5) ⟨_, _, h5, (h1 _).1, by have := (h1 ((((big % 2147483629 + 7919 * (n : Int) * (n : Int)) + 31 * (n : Int)) + 17) * 48271)).2; omega⟩
  · refine q_ifED (x := decide ((n : Int) < ((ns.length : Nat) : Int))) ?tst (fun hx H2 e2 => ?_) (fun hx H2 e2 => ?_)
    case tst => exact et_B (ed_op (ed_var (K := K) rfl (.int _)) (ed_lenL (xs := ns) (enc := PyData.int) (ed_var rfl (pa.ex e1))) (rd_b (g := fun i j => decide (i < j))))
    · have hx := of_decide_eq_true hx
      refine s_asgD (K := K) (ed_op (ed_var rfl ((pa.ex e1).ex e2)) (ed_var rfl (.int _)) (rd_ixL (d := .int (ns[n]'(by omega))) (by rw [List.getElem?_map, List.getElem?_eq_getElem (by omega)]; rfl))) (fun v H3 e3 pv => ?_)
      cases dp_int pv
      exact fin _ H3 ⟨_, rfl, (e1.trans e2).trans e3⟩
    · refine s_ifD (et_B (ed_op (ed_var (K := K) rfl ((pa.ex e1).ex e2)) (ed_lst eds_nil (by show 0 ≤ 100000; omega)) rd_neE)) (fun hx H3 e3 => ?_) (fun hx H3 e3 => ?_)
      · have hne : 0 < ns.length := by
          cases ns with
          | nil => simp at hx
          | cons a ns => simp
        refine s_asgD (K := K) (ed_op (ed_var rfl (((pa.ex e1).ex e2).ex e3)) ed_int (rd_ixL (i := 0) (d := .int (ns[0]'hne)) (by rw [List.getElem?_map, List.getElem?_eq_getElem hne]; rfl))) (fun v H4 e4 pv => ?_)
        cases dp_int pv
        exact fin _ H4 ⟨_, rfl, ((e1.trans e2).trans e3).trans e4⟩
      · exact fin _ H3 ⟨_, rfl, (e1.trans e2).trans e3⟩
end
end BB
/-! G8: __init__ of an own exception over ValueError that says super().__init__(what) and stores what. -/
namespace BB
open PySem L2 Evl LamX NdefX
open PySem.W (clsIn mroIn subIn findIn typeIn keepIn nsIn codeIn ks_superIn)
abbrev nmInit : Str := PySem.Str.ofString "__init__"
abbrev nmWhat : Str := PySem.Str.ofString "what"
abbrev nmClass : Str := PySem.Str.ofString "__class__"
/-- what is known of Refused.__init__ at fI, its class D, the cell cc, its code object at c -/
structure SupT (P : Program) (K : PySem.W.Frag) (mg : Str → Option Value) (fI D cc c : Addr) (fd : FuncData) : Prop where
  lk : ∃ (oc : Value) (od : Option Addr) (osl : Array (Option Value)) (dV kV doc pm : Value) (an : Option Addr) (ct : Value), fd = PySem.W.fnX nmInit (PySem.Str.ofString "Refused.__init__") (defArgs st_Refused_init) (defBody st_Refused_init) (defScope st_Refused_init) [(nmClass, cc)] dV kV doc pm an (.ref c) ct ∧ K.lookup fI = some ⟨oc, od, .func fd, osl⟩
  hcd : codeIn K (.ref c) (PySem.Str.ofString "Refused.__init__") = true
  code : ∃ (ccl : Value) (cdd : Option Addr) (ccs : Array (Option Value)) (vs : Array Value) (file : Str) (tf : Tok), K.lookup c = some ⟨ccl, cdd, .fields vs, ccs⟩ ∧ vs[2]? = some (.str file tf) ∧ ((P.main.file : Str) == file) = true
  cell : ∃ (cl : Value) (cld : Option Addr) (csl : Array (Option Value)), K.lookup cc = some ⟨cl, cld, .cell (some (.ref D)), csl⟩
  cls : ∃ cd, clsIn K D = some cd
  top : (P.main.scope.names.lookup (PySem.Str.ofString "super")).isSome = false
  nos : mg (PySem.Str.ofString "super") = none
  opq : nsIn K cStatics "thirdparty.any" = some none
  ty : typeIn K (.ref fI) = some (.type "function")
/-- what is known of a class C under D -/
structure ExcT (K : PySem.W.Frag) (D fI C : Addr) : Prop where
  oex : OexC K C
  mro : mroIn K C (.ref D) = some true
  sup : ks_superIn K C D "__init__" = some (some (.builtin "ValueError.__init__"))
  sub : subIn K (.ref C) (.type "ValueError") = some true
  fw : findIn K (.ref C) nmWhat = some none
  ini : findIn K (.ref C) "__init__" = some (some (.ref fI))
  xf : XfC K C
def RefSp (K : PySem.W.Frag) (D fI : Addr) : Sp := fun vs H Q _ => ∃ (a C : Addr) (y : V), vs = [.ref a, y] ∧ H a = some (exo a C none) ∧ ExcT K D fI C ∧ ∀ dx, H dx = none → dx ≠ a → Q .non (upd (upd H dx (exd dx [(nmWhat, y)])) a (exo a C (some dx)))
section
variable {X : Cx} {pins : List (Addr × Obj)} {σ : L2.St} {H : Hp} {s : Shared} {a C u : Addr} {A : Around} {E : Value → Shared → Prop}
/-- the bound __init__ of ValueError, called -/
theorem sup_call {us : List Value} {Q : Value → Shared → Prop} (T : OexC X.K C) (I : Inv X pins σ H s) (e : H a = some (exo a C none)) (hu : s.heap.get? u = some (PySem.W.kxs_mw "ValueError.__init__" a)) (hl : us.length ≤ sizeLine) (h : ∀ s', Inv X pins σ H s' → Q .none s') :
    wpAny (model X.prog X.w) A (call (.ref u) us) Q E s := by
  obtain ⟨nm, q, N, bs, bm, sn, sub, ab, col, dd, k0, k1, k2, k3, k5, hC, hbm⟩ := T.cls
  obtain ⟨t1, ho⟩ := exo_at I.hok e
  have kk := I.kIn _ _ hC
  obtain ⟨hp, g, d, t, os⟩ := s
  refine wpAny_call (codeAny_of_tree ?_)
  show wpAny _ A.in1 (callAny (.ref u) ⟨us, []⟩) _ _ _
  simp only [callAny]
  refine wpAny_bind (wpAny_load hu ?_)
  simp only [PySem.W.kxs_mw, show (Value.type "method-wrapper" == Value.type "method" || Value.type "method-wrapper" == Value.type "builtin_function_or_method" || Value.type "method-wrapper" == Value.type "method-wrapper") = true by decide, if_true]
  refine PySem.W.KFB.if_so (by decide) ?_
  refine wpAny_bind (PySem.W.check_bound_init (PySem.F.excBase_ValueError).toExcCallFacts kk ho rfl ?_)
  refine wpAny_bind (wpAny_pure (wpAny_pure ?_))
  refine ⟨plainId_quiet (PySem.F.excBase_ValueError).init.plain _, codeAny_builtin (PySem.F.excBase_ValueError).initEntry ?_⟩
  refine PySem.W.exc_init_tree (cls := .ref C) (t0 := t1) (dv := none) (c2 := .none) (c3 := .none) (b4 := .bool false) ho hl fun h' k hx ht => ?_
  have J := I.write (t' := t) (x := a) (e := a) (o := exo a C none) (by rw [e]; exact True.intro) (.inl rfl) k ⟨_, hx⟩ (exo_ok hx)
  have same : upd H a (exo a C none) = H := funext fun b => by
    by_cases hb : b = a
    · subst hb; rw [upd_same, e]
    · rw [upd_ne hb]
  rw [same] at J
  exact h _ J
end
theorem look_one {β : Type} {x y : Str} {b b' : β} (h : List.lookup y [(x, b)] = some b') : y = x ∧ b' = b := by
  simp only [List.lookup] at h
  split at h
  · rename_i q
    exact ⟨by simpa using q, (Option.some.inj h).symm⟩
  · cases h
theorem look_same {β : Type} {x : Str} {b : β} : List.lookup x [(x, b)] = some b := by simp [List.lookup]
theorem body_ref : defBody st_Refused_init = [.Expr (.Call (.Attribute (.Call (.Name (PySem.Str.ofString "super") ⟨5, 8, 5, 13⟩) [] [] ⟨5, 8, 5, 15⟩) nmInit ⟨5, 8, 5, 24⟩) [.Name nmWhat ⟨5, 25, 5, 29⟩] [] ⟨5, 8, 5, 30⟩) ⟨5, 8, 5, 30⟩, .Assign [.Attribute (.Name (PySem.Str.ofString "self") ⟨6, 8, 6, 12⟩) nmWhat ⟨6, 8, 6, 17⟩] (.Name nmWhat ⟨6, 20, 6, 24⟩) ⟨6, 8, 6, 24⟩] := rfl
abbrev nsRef : List Str := [PySem.Str.ofString "self", nmWhat, nmClass]
theorem scope_ref : NScope nsRef [PySem.Str.ofString "self", nmWhat] [nmClass] (defScope st_Refused_init) := nscope_by (by decide +kernel)
section
variable {P : Program} {w : World} {K : PySem.W.Frag} {mg : Str → Option Value} {base : Heap} {fI D cc c : Addr} {fd : FuncData}
theorem ok_refused_init (S : SupT P K mg fI D cc c fd) : FnOk P w K mg base CX0 1 fI fd [PySem.Str.ofString "self", nmWhat] (RefSp K D fI) := by
  refine ⟨?_, fun A outer s H args us vs Q E hr e0 hb r hsp => ?_⟩
  · rintro vs H Q E ⟨a, C, y, rfl, _⟩
    rfl
  obtain ⟨a, C, y, rfl, ha, T, k⟩ := hsp
  obtain ⟨oc, od, osl, dV, kV, doc, pm, an, ct, rfl, lk⟩ := S.lk
  obtain ⟨ccl, cdd, ccs, vsc, file, tf, lc, hfile, hmain⟩ := S.code
  obtain ⟨cl, cld, csl, lcc⟩ := S.cell
  obtain ⟨cdD, hD⟩ := S.cls
  have KX : K.In s.heap := e0.mod.kin.keeps fun b o e => (e0.bs b o e).1
  have lim : s.heap.NoLimit := e0.mod.nolimit.keeps fun b o e => (e0.bs b o e).1
  obtain ⟨ua, r2⟩ : ∃ ua, us = [.ref a, ua] ∧ RelV y ua := by
    obtain ⟨u, v, e, r1, r2⟩ := vals2 r
    have r1 : u = Value.ref a := r1
    exact ⟨v, by rw [e, r1], r2⟩
  obtain ⟨rfl, ry⟩ := r2
  have hC0 : ∀ b o, K.lookup b = some o → H b = none := fun b o e => (e0.bs b o (e0.mod.kin b o e)).2
  refine PySem.ks_codeAny_call_defAt hr.depth (KX _ _ lk) rfl lim (PySem.W.codeRec_of KX S.hcd) rfl hb scope_ref.nocell (fun ⟨n, _⟩ hy => scope_ref.par n (List.of_mem_zip hy).1) (fun h₀ hns kp => ?_)
  have cells : CellsAt [(nmClass, cc)] [nmClass] [none] s.heap H := by
    refine ⟨rfl, fun y c' h => ?_, fun x y c' h1 h2 => (look_one h1).1.trans (look_one h2).1.symm, fun i y hi => ?_⟩
    · obtain ⟨_, rfl⟩ := look_one h
      exact ⟨hC0 _ _ lcc, _, _, KX _ _ lcc, rfl⟩
    · cases i with
      | zero =>
        cases hi
        exact ⟨cc, look_same, fun v hv => by cases hv⟩
      | succ i => simp at hi
  let F : NF := ⟨nmInit, PySem.Str.ofString "Refused.__init__", defArgs st_Refused_init, defBody st_Refused_init, defScope st_Refused_init, [(nmClass, cc)], c⟩
  have I := inv_startN (CX := CX0) (K := K) (mg := mg) (base := base) (F := F) (f := fI) (E := E) (tk := s.toks + 2) scope_ref hr.hd e0 rfl r cells hns kp
  have J : ∀ h', (∀ b o, h₀.get? b = some o → h'.get? b = some o) → ∀ t', Inv (ncx CX0 P w K mg base nsRef F fI A outer s H E) [] (startF nsRef [V.ref a, y] [none]) H { s with heap := h', toks := t' } := fun h' kk t' => I.kept (t' := t') kk
  obtain ⟨cdC, hC⟩ : ∃ cdC, clsIn K C = some cdC := by
    have h1 := T.mro
    unfold PySem.W.mroIn at h1
    cases q : clsIn K C with
    | none => rw [q] at h1; cases h1
    | some cd => exact ⟨cd, rfl⟩
  have bk : ∀ b o, base.get? b = some o → h₀.get? b = some o := fun b o e => kp b o (e0.bs b o e).1
  obtain ⟨mb, hmb, hbb⟩ := e0.mod.blt
  obtain ⟨oD, hD1, hD2⟩ : ∃ oD, h₀.get? D = some oD ∧ oD.data = .cls cdD := by
    unfold PySem.W.clsIn at hD
    split at hD
    · rename_i ho
      cases hD
      exact ⟨_, kp _ _ (KX _ _ ho), rfl⟩
    · cases hD
  obtain ⟨t1, hx0⟩ := exo_at e0.hok ha
  have hx1 := kp _ _ hx0
  have hne : a ≠ C := fun z => by
    unfold PySem.W.clsIn at hC
    split at hC
    · rename_i ho
      rw [z] at ha
      rw [hC0 _ _ ho] at ha
      cases ha
    · cases hC
  show wpAt _ _ _ (execs (defBody st_Refused_init) _) _ _ _
  rw [body_ref]
  refine ks_wpAt_execs_cons (ks_wpAt_Expr_any (ks_wpAt_MethodCall (ks_wpAt_super_base (f := fI) rfl rfl rfl rfl (kp _ _ (KX _ _ lk)) rfl rfl rfl (kp _ _ (KX _ _ lc)) rfl hfile hmain S.top ?_)))
  refine PySem.W.ks_loadName_global rfl rfl (Calls.loadGlobal_builtin (mg := mg) (e0.mod.glob.keeps bk) S.nos (hmb.keeps bk) ((hbb _ (by decide +kernel)).trans (by rfl)) ⟨rfl, ?_⟩)
  refine wpAny_loadName_free rfl rfl look_same ⟨_, kp _ _ (KX _ _ lcc), rfl⟩ ?_
  refine wpAny_loadName_local rfl rfl hns (by rfl) ?_
  refine ks_wpAny_isType_cls hD1 hD2 ⟨rfl, ?_⟩
  refine ks_wpAny_call_super hD1 hD2 hx1 rfl (fun c z => by cases z) (PySem.W.looks_mroIn (KX.keeps kp) T.mro) (fun h' e1 k1 => ?_)
  have XX : K.In h' := (KX.keeps kp).keeps k1
  have hx2 := k1 _ _ hx1
  have IA : PySem.W.InstAt h' a _ C none := ⟨hx2, rfl, rfl, trivial⟩
  refine PySem.W.kxs_getMethod PySem.W.kxs_ValueError e1 (PySem.W.looks_opaque XX S.opq) (l₀ := cdC.mro) (fun A Q E s k q => wpAny_bind ((PySem.W.looks_clsIn XX hC) A _ E s k (wpAny_pure q))) rfl XX (by
    have h1 := T.sup
    unfold PySem.W.ks_superIn at h1
    rw [hC] at h1
    exact h1) (IA.type.andThen (PySem.W.looks_subIn XX T.sub)) hne (by decide) ?_
  have kk1 : ∀ b o, h₀.get? b = some o → (h'.push (PySem.W.kxs_mw "ValueError.__init__" a)).get? b = some o := fun b o e => Heap.get?_push_of_some _ (k1 b o e)
  refine PySem.W.kxs_callWith (i := "ValueError.__init__") (x := a) (by rfl) (Calls.evalArgs_plain ?_)
  show wpAny _ _ (spliced [(false, eval (.Name nmWhat _) _)]) _ _ _
  refine Calls.spliced_cons (PySem.ESX.ldL (hns.keeps kk1) (by rfl) (Calls.spliced_nil ⟨Heap.get?_push_size _ rfl, ?_⟩))
  refine sup_call (X := ncx CX0 P w K mg base nsRef F fI A outer s H E) (u := h'.objs.size) T.oex (J _ kk1 _) ha (Heap.get?_push_size _ rfl) (by show 1 ≤ sizeLine; exact sz_of (by decide)) (fun s' J' => ?_)
  refine wpAt_of_wpAny ?_
  have ht := pss_one (ps_ost (X := ncx CX0 P w K mg base nsRef F fI A outer s H E) (f := nmWhat) (pos := ⟨6, 8, 6, 24⟩) (p' := ⟨6, 8, 6, 17⟩) (pv (x := PySem.Str.ofString "self") (pos := ⟨6, 8, 6, 12⟩) 0) (pv (x := nmWhat) (pos := ⟨6, 20, 6, 24⟩) 1))
  refine wpAny_mono (ht.run [] s' (startF nsRef [V.ref a, y] [none]) H { nx := fun _ H' => Q .non H', rt := Q } J' ⟨y, rfl, .ref a, rfl, a, C, rfl, T.oex, T.fw, .inl ⟨ha, fun dx h1 h2 => k dx h1 h2⟩⟩) (fun fl s2 hs => ?_) fun e s2 hs => hs
  cases fl with
  | ret u =>
    obtain ⟨v, σ', H', J2, rv, q⟩ := hs
    exact ⟨v, H', J2.os, J2.bare, J2.base, J2.hok, rv, q⟩
  | next =>
    obtain ⟨σ', H', J2, q⟩ := hs
    exact ⟨V.non, H', J2.os, J2.bare, J2.base, J2.hok, rfl, q⟩
  | brk => exact (hs.choose_spec.choose_spec.2 : False).elim
  | cont => exact (hs.choose_spec.choose_spec.2 : False).elim
end
end BB
/-! G9: try with several clauses «except X as n». -/
namespace BB
open PySem L2 Evl LamX NdefX
open PySem.Spec PyProof.Rows
abbrev Clause := Value × Nat × (Addr → Value → Option Addr → TS)
/-- behind a suite the clause's name is gone -/
def goneD (D : Ends) (i : Nat) : Ends := { nx := fun σ' H' => D.nx (σ'.set i none) H', rt := D.rt, bk := fun σ' H' => D.bk (σ'.set i none) H', ct := fun σ' H' => D.ct (σ'.set i none) H' }
/-- what the clauses wish of an exception of the body -/
def wAsM (K : PySem.W.Frag) (Wout : WX) (D : Ends) : List Clause → WX
  | [] => Wout
  | (c, i, ts) :: r => fun cls d σ H => ∃ b, PySem.W.exmOne K cls c = some b ∧ (b = true → ∀ a, H a = none → ts a cls d (goneD D i) (σ.set i (some (.ref a))) H) ∧ (b = false → wAsM K Wout D r cls d σ H)
/-- the clauses, read -/
inductive AsOk (X : Cx) : List ExceptHandler → List Clause → Prop
  | nil : AsOk X [] []
  | cons {x n : Str} {c : Value} {i : Nat} {ts : Addr → Value → Option Addr → TS} {b₀ : Stmt} {suite : List Stmt} {np pos : Pos} {hds : List ExceptHandler} {l : List Clause} (hc : Names X x c) (hi : X.N[i]? = some n) (hln : X.env.kindOf n = some .local)
      (hsu : ∀ (a : Addr) (oe : Obj) (cls : Value) (d : Option Addr) (pn : List (Addr × Obj)), Zc cls d oe → (∃ vs, oe.data = .fields vs) → PSs (X.suite a ((a, oe) :: pn)) (b₀ :: suite) (ts a cls d)) (r : AsOk X hds l) :
      AsOk X (.ExceptHandler (some (.Name x np)) (some n) (b₀ :: suite) pos :: hds) ((c, i, ts) :: l)
section
variable {X : Cx} {tb : WX → TS} {Wout : WX} {D : Ends}
/-- an exception on the ground in the frame's own hand: all that the clauses ask -/
structure OnHand (X : Cx) (pins : List (Addr × Obj)) (B : Heap) (a : Addr) (cls : Value) (d : Option Addr) (σ : L2.St) (H : Hp) (sI s : Shared) : Prop where
  J : Inv X pins σ H sI
  nb : ∀ b o, sI.heap.get? b = some o → b ∉ frs X.stack → B.get? b = some o
  up : sI.heap.UpToSlots s.heap
  fl : HandSPX.FlyingZ B (X.env :: X.outer) a (Zc cls d) s.heap
  na : H a = none
  os : s.os = sI.os
  ag : AllBare s.gens
section
variable {pins : List (Addr × Obj)} {B : Heap} {a : Addr} {cls : Value} {d : Option Addr} {σ : L2.St} {H : Hp} {sI s : Shared}
theorem OnHand.inv (o : OnHand X pins B a cls d σ H sI s) : Inv X pins σ H s := o.J.landed o.nb o.fl.1 o.up o.os o.ag
theorem OnHand.away (o : OnHand X pins B a cls d σ H sI s) (hf : X.env.frame = some X.env.locals) : a ≠ X.env.locals ∧ a ∉ X.fs := by
  obtain ⟨oe, vs, he, hz, hd⟩ := o.fl.there
  have key : a ∉ frs (X.env :: X.outer) := fun hm => by
    obtain ⟨_, o', e', hnf⟩ := o.fl.2.2.1.mem hm
    rw [he] at e'
    cases e'
    exact hnf _ hd
  refine ⟨fun z => key (List.mem_filterMap.mpr ⟨X.env, List.mem_cons_self, by rw [hf, z]⟩), fun hm => ?_⟩
  obtain ⟨e, he', q⟩ := List.mem_filterMap.mp hm
  exact key (List.mem_filterMap.mpr ⟨e, List.mem_cons_of_mem _ he', q⟩)
/-- the suite's state -/
theorem OnHand.inSuite (o : OnHand X pins B a cls d σ H sI s) (hf : X.env.frame = some X.env.locals) : ∃ oe, Zc cls d oe ∧ (∃ vs, oe.data = .fields vs) ∧ s.heap.get? a = some oe ∧ Inv (X.suite a ((a, oe) :: (X.pn ++ pins))) [] σ H s := by
  obtain ⟨oe, vs, he, hz, hd⟩ := o.fl.there
  obtain ⟨n1, n2⟩ := o.away hf
  exact ⟨oe, hz, ⟨vs, hd⟩, he, o.inv.suite he hd o.na n1 n2⟩
/-- one clause after the other -/
theorem handle_all {hds : List ExceptHandler} {l : List Clause} (hN : X.N.Nodup) (hs : X.stack = X.env :: X.outer) (hf : X.env.frame = some X.env.locals) (tk : Takes X Wout) (hh : AsOk X hds l) (o : OnHand X pins B a cls d σ H sI s) (w : wAsM X.K Wout D l cls d σ H) :
    wpAny (model X.prog X.w) X.A (handleBy (.ref a) X.env hds) (SP X pins D) X.xe s := by
  have ok := o.J.ok
  induction hh with
  | nil =>
    refine wpAny_handleBy_nil ?_
    have fl := o.fl
    obtain ⟨k1, k2, k3, oe, vs, T, oT, ts', he, hz, hd, h1, hr⟩ := id fl
    unfold PySem.passOn
    refine wpAny_bind (wpAny_field he hd h1 ?_)
    rw [if_neg (show ¬ ((Value.ref T == Value.none) = true) from by simp)]
    have fin : wpAny (model X.prog X.w) X.A (setFlight (.ref a) X.env.frame) (fun _ s4 => wpAny (model X.prog X.w) X.A (throw (.ref a) : Sem Flow) (SP X pins D) X.xe s4) X.xe s := by
      rw [hf]
      exact HandSPX.setFlight_upZ fl fun h4 hh4 up4 => wpAny_throw (tk _ _ ⟨a, B, sI, pins, σ, H, cls, d, rfl, o.J, o.nb, o.up.trans up4, .inr (.inr (by rw [hs]; exact hh4)), o.na, o.os, o.ag, w⟩)
    first
      | exact wpAny_bind (wpAny_pure (wpAny_bind fin))
      | exact wpAny_bind fin
  | @cons x n c i ts b₀ suite np pos hds' l' hc hi hln hsu r ih =>
    obtain ⟨b, hb1, hyes, hno⟩ := w
    refine wpAny_handleBy_cons (codeAny_handlers_test ?_) (by intro q; cases q)
    obtain ⟨oe, hz, hd, he, S3⟩ := o.inSuite hf
    have LT : PySem.W.Looks (model X.prog X.w) s.heap (typeOf (.ref a)) cls := fun A Q E s' k q => wpAny_typeOf_ref (k _ _ he) (by rw [hz.1]; exact q)
    have LM := PySem.W.exm_one (M := model X.prog X.w) o.inv.kIn LT hb1
    have test : ∀ {Q : Value → Shared → Prop} {E : Value → Shared → Prop}, Q c s → wpAny (model X.prog X.w) (X.A.mark (some (.ref a))) (eval (.Name x np) X.env) Q E s := fun {Q E} q => by
      obtain ⟨hg, hdbg, hm | ⟨hm, hv, hnn⟩⟩ := hc
      · exact ld_glob (X := X.suite a ((a, oe) :: (X.pn ++ pins))) S3 hg hm q hdbg
      · exact ld_blt (X := X.suite a ((a, oe) :: (X.pn ++ pins))) S3 hg hm hv q hnn hdbg
    refine test (LM.here ?_)
    cases b with
    | false => exact ih (hno rfl)
    | true =>
      refine codeAny_handlers_suite_as (HandSPX.lands_againZ o.fl fun h4 fl4 up4 => ?_)
      have o4 : OnHand X pins B a cls d σ H sI { s with heap := h4 } := ⟨o.J, o.nb, o.up.trans up4, fl4, o.na, o.os, o.ag⟩
      obtain ⟨oe4, hz4, hd4, he4, S4⟩ := o4.inSuite hf
      refine store_ok (X := X.suite a ((a, oe4) :: (X.pn ++ pins))) (v := .ref a) S4 hN hi (.inl hln) rfl (fun s5 S5 => ?_) (.inr hln)
      refine wpAny_mono ((hsu a oe4 cls d (X.pn ++ pins) hz4 hd4).run [] s5 _ H _ S5 (hyes rfl a o.na)) (fun f s6 hsp => ?_) (fun _ _ z => False.elim z)
      have away : ∀ {σ6 : L2.St} {H6 : Hp} {Q : Shared → Prop}, Inv (X.suite a ((a, oe4) :: (X.pn ++ pins))) [] σ6 H6 s6 → (∀ s7, Inv X pins (σ6.set i none) H6 s7 → Q s7) →
          wpAny (model X.prog X.w) X.A (do bindName X.env n .none; unbindBehindTheSuite X.env n pos) (fun _ s7 => Q s7) X.xe s6 := fun {σ6 H6 Q} S6 hq => gone_ok (S6.unsuite ok) hN hi hln hq
      cases f with
      | ret u =>
        obtain ⟨v6, σ6, H6, S6, r6, q6⟩ := hsp
        exact away S6 fun s7 J7 => ⟨_, _, _, J7, r6, q6⟩
      | next =>
        obtain ⟨σ6, H6, S6, q6⟩ := hsp
        exact away S6 fun s7 J7 => ⟨_, _, J7, q6⟩
      | brk =>
        obtain ⟨σ6, H6, S6, q6⟩ := hsp
        exact away S6 fun s7 J7 => ⟨_, _, J7, q6⟩
      | cont =>
        obtain ⟨σ6, H6, S6, q6⟩ := hsp
        exact away S6 fun s7 J7 => ⟨_, _, J7, q6⟩
end
/-- the rule -/
theorem ps_try_manyAs {body : List Stmt} {h₀ : ExceptHandler} {hds : List ExceptHandler} {l : List Clause} {pos : Pos} (hs : X.stack = X.env :: X.outer) (hf : X.env.frame = some X.env.locals) (hN : X.N.Nodup) (tk : Takes X Wout)
    (hb : ∀ (W : WX) (pn : List (Addr × Obj)) (xe : Value → Shared → Prop), Takes (X.tr pn xe) W → PassesOwn (model X.prog X.w) X.A X.env xe → PSs (X.tr pn xe) body (tb W)) (hh : AsOk X (h₀ :: hds) l) :
    PS X (.Try body (h₀ :: hds) [] [] pos) (fun D σ H => tb (wAsM X.K Wout D l) D σ H) := by
  refine ⟨fun pins s σ H D I h => ?_⟩
  have ok := I.ok
  have hfr : X.A.frames = some (X.env :: X.outer) := by rw [ok.frames, hs]
  refine wpAny_Try_except ?_
  refine wpAny_mono ((hb (wAsM X.K Wout D l) (X.pn ++ pins) (fun e s₁ => wpAny (model X.prog X.w) X.A (noteFrame e X.env) (fun _ s₂ => wpAny (model X.prog X.w) X.A (setFlight e none) (fun _ s₃ =>
    wpAny (model X.prog X.w) X.A (handleBy e X.env (h₀ :: hds)) (SP X pins D) X.xe s₃) X.xe s₂) X.xe s₁) (fun u s' xx => ?_) PassesOwn.looking).run [] s σ H D (I.toTry _) h) (fun f s1 hsp => ?_) (fun e s1 he => he)
  · obtain ⟨a, B, sI, pins', σ', H', cls, d, rfl, J', nb, up, sky, na, os, ag, w⟩ := xx
    have sky' : Sky B (X.env :: X.outer) a (Zc cls d) X.env.locals s'.heap := by rw [← hs]; exact sky
    show wpAny (model X.prog X.w) X.A (noteFrame (.ref a) X.env) _ _ _
    exact Sky.land Zc.steady hfr hf sky' fun h3 fl3 up3 => handle_all hN hs hf tk hh ⟨J'.ofTry ok, nb, up.trans up3, fl3, na, os, ag⟩ w
  · cases f with
    | ret u =>
      obtain ⟨v, σ', H', J', r, q⟩ := hsp
      exact ⟨v, σ', H', J'.ofTry ok, r, q⟩
    | next =>
      obtain ⟨σ', H', J', q⟩ := hsp
      exact wpAny_execs_nil ⟨σ', H', J'.ofTry ok, q⟩
    | brk =>
      obtain ⟨σ', H', J', q⟩ := hsp
      exact ⟨σ', H', J'.ofTry ok, q⟩
    | cont =>
      obtain ⟨σ', H', J', q⟩ := hsp
      exact ⟨σ', H', J'.ofTry ok, q⟩
end
end BB
/-! L21: the defs that refuse, where they do. -/
namespace BB
open PySem L2 Evl LamX NdefX
/-- what is known of the errors -/
structure ErrT (P : Program) (K : PySem.W.Frag) (mg : Str → Option Value) where
  fI : Addr
  fd : FuncData
  D : Addr
  cc : Addr
  c : Addr
  S : SupT P K mg fI D cc c fd
  bI : Binds K fd [PySem.Str.ofString "self", nmWhat] []
  CB : Addr
  CD : Addr
  gB : mg (PySem.Str.ofString "BadBook") = some (.ref CB)
  gD : mg (PySem.Str.ofString "BadData") = some (.ref CD)
  gR : mg (PySem.Str.ofString "Refused") = some (.ref D)
  tB : ExcT K D fI CB
  tD : ExcT K D fI CD
  mBB : PySem.W.exmOne K (.ref CB) (.ref CB) = some true
  mDB : PySem.W.exmOne K (.ref CD) (.ref CB) = some false
  mDD : PySem.W.exmOne K (.ref CD) (.ref CD) = some true
/-- the wish of an exception of the class at C that tells y -/
def Wish (K : PySem.W.Frag) (E : XK) (H : Hp) (C : Addr) (y : PyData) : Prop := ∀ dd v H', Ex H H' → Dp K H' v y → H' dd = some (.xd [(nmWhat, v)]) → E (.ref C) (some dd) H'
theorem Wish.ex {K : PySem.W.Frag} {E : XK} {H H' : Hp} {C : Addr} {y : PyData} (w : Wish K E H C y) (e : Ex H H') : Wish K E H' C y := fun dd v H2 e2 => w dd v H2 (e.trans e2)
theorem rs_made {K : PySem.W.Frag} {D fI C : Addr} {te : TE} {σ : L2.St} {H : Hp} {y : PyData} {W : XK} (T : ExcT K D fI C) (h : ED K te σ H y) (k : Wish K W H C y) : tMkO C (RefSp K D fI) [] (tCons te tNil) σ H W :=
  h H (Ex.refl _) _ fun v H1 e1 pv => ⟨by show 1 ≤ 1000; omega, fun a ha => ⟨a, C, v, rfl, upd_same, T, fun dx hdx hne => by
    have hdx1 : H1 dx = none := by rw [upd_ne hne] at hdx; exact hdx
    refine ⟨rfl, dx, [(nmWhat, v)], upd_same, by rw [upd_ne hne, upd_same], hdx1, ?_⟩
    have e : upd (del (upd (upd (upd H1 a (exo a C none)) dx (exd dx [(nmWhat, v)])) a (exo a C (some dx))) a) dx (.xd [(nmWhat, v)]) = upd H1 dx (.xd [(nmWhat, v)]) := by
      funext b
      by_cases hb : b = dx
      · subst hb; rw [upd_same, upd_same]
      · rw [upd_ne hb, upd_ne hb]
        by_cases hba : b = a
        · subst hba; rw [del_same, ha]
        · rw [del_ne hba, upd_ne hba, upd_ne hb, upd_ne hba]
    rw [e]
    have e2 := Ex.new (o := .xd [(nmWhat, v)]) hdx1
    exact k dx v _ (e1.trans e2) (pv.ex e2) upd_same⟩⟩
section
variable {P : Program} {w : World} {K : PySem.W.Frag} {mg : Str → Option Value} {base : Heap}
/-- no book at the scheme i -/
def BadB (B : List (List Int)) (i : Nat) : Prop := 1 ≤ B.length ∧ B.length ≤ 12 ∧ smallB B ∧ ∃ s, B[i]? = some s ∧ schB s = false ∧ ∀ (m : Nat) s', m < i → B[m]? = some s' → schB s' = true
/-- no data: what is told -/
def BadD (B : List (List Int)) (ys : List PyData) (y : PyData) : Prop := (ys.length ≠ B.length ∧ y = .int (-1)) ∨ (DataT B ys ∧ ∃ (m : Nat) (z : PyData) (kk : Int), y = .tuple [.int (m : Int), .int kk] ∧ ys[m]? = some z ∧ BadAt (B.getD m []) z kk ∧ ∀ (m' : Nat) y', m' < m → ys[m']? = some y' → GoodRows (B.getD m' []) y')
def MbSp (K : PySem.W.Frag) (CB : Addr) : Sp := fun vs H Q E => ∃ v B, vs = [v] ∧ Dp K H v (bookD B) ∧ ((bookB B ∧ ∀ H', Ex H H' → Q v H') ∨ ∃ i : Nat, BadB B i ∧ Wish K E H CB (.int (i : Int)))
theorem okX_made_book (T : Txt K mg) (Z : ErrT P K mg) : FnOk P w K mg base (L2.CX P w) 7 T.d_made_book.f T.d_made_book.fd ["thing"] (MbSp K Z.CB) := by
  refine T.d_made_book.F.okX sc_made_book ?len (fun cdv A outer s H vs Q E hr h => ?_)
  case len =>
    rintro vs H Q E ⟨v, B, rfl, _⟩
    rfl
  obtain ⟨v, B, rfl, p, h⟩ := h
  refine ⟨_, (pss_cons (ps_if (pt_not (pt_val (pe_call (ok_has_size (P := P) (w := w) T) (hr.mono (by decide)) (by rfl) T.d_has_size.g T.d_has_size.F.kp T.d_has_size.b .nil pass0 (pa_cons (pv 0) pa_nil))))
      (pss_one (ps_raise rfl (takes_of rfl rfl rfl rfl) (pmk_oex (dvs := []) Z.tB.oex Z.tB.ini Z.S.ty (ok_refused_init Z.S) (hr.mono (by decide)) Z.bI .nil pass0 (by rfl) Z.gB (pa_cons (pe_un un_neg pe_int) pa_nil))))
      pss_nil)
      (pss_cons (ps_set (i := 1) sc_made_book.nd rfl (by first | exact Or.inl rfl | exact Or.inr rfl) (pe_call (ok_first_wrong (P := P) (w := w) T) (hr.mono (by decide)) (by rfl) T.d_first_wrong.g T.d_first_wrong.F.kp T.d_first_wrong.b .nil pass0 (pa_cons (pv 0) pa_nil)))
      (pss_cons (ps_if (pt_cmpR op_notN (pv 1) pe_non (nomark _))
      (pss_one (ps_raise rfl (takes_of rfl rfl rfl rfl) (pmk_oex (dvs := []) Z.tB.oex Z.tB.ini Z.S.ty (ok_refused_init Z.S) (hr.mono (by decide)) Z.bI .nil pass0 (by rfl) Z.gB (pa_cons (pv 1) pa_nil))))
      pss_nil)
      (pss_one (ps_ret (pv 0)))))), ?_⟩
  have hlen : 1 ≤ B.length ∧ B.length ≤ 12 := by
    rcases h with ⟨hB, _⟩ | ⟨i, hB, _⟩
    · exact ⟨hB.1, hB.2.1⟩
    · exact ⟨hB.1, hB.2.1⟩
  have hsm : smallB B := by
    rcases h with ⟨hB, _⟩ | ⟨i, hB, _⟩
    · exact hB.small
    · exact hB.2.2.1
  refine q_whenD (x := false) (ET.is (et_not (et_B (ed_call (c := .bool true) (eds_cons (ed_var rfl p) eds_nil) ⟨_, rfl, ?sz⟩))) rfl) (fun h => nomatch h) fun _ H1 e => ?_
  case sz =>
    rw [List.length_map, decide_eq_true (by omega), decide_eq_true (by omega)]; rfl
  rcases h with ⟨hB, k⟩ | ⟨i, ⟨_, _, _, s1, h1, h2, h3⟩, k⟩
  · refine q_asgD (ed_call (c := .none) (eds_cons (ed_var rfl (p.ex e)) eds_nil) ⟨B, rfl, hsm, .inl ⟨rfl, hB.2.2⟩⟩) fun z H2 e2 pz => ?_
    refine q_whenD (x := false) (et_test (ed_op (ed_var rfl pz) ed_non rd_notN)) (fun h => nomatch h) fun _ H3 e3 => ?_
    exact ⟨_, rfl, k H3 ((e.trans e2).trans e3)⟩
  · refine q_asgD (ed_call (c := .int (i : Int)) (eds_cons (ed_var rfl (p.ex e)) eds_nil) ⟨B, rfl, hsm, .inr ⟨i, s1, rfl, h1, h2, h3⟩⟩) fun z H2 e2 pz => ?_
    refine q_whenD (x := true) (et_test (ed_op (ed_var rfl pz) ed_non rd_notN)) (fun _ H3 e3 => ?_) fun h => nomatch h
    exact rs_made Z.tB (ed_var rfl (pz.ex e3)) (k.ex ((e.trans e2).trans e3))
def WdSp (K : PySem.W.Frag) (CD : Addr) : Sp := fun vs H Q E => ∃ v u B ys y, vs = [v, u] ∧ Dp K H v (bookD B) ∧ Dp K H u (.tuple ys) ∧ bookB B ∧ BadD B ys y ∧ Wish K E H CD y
theorem okX_want_data (T : Txt K mg) (Z : ErrT P K mg) : FnOk P w K mg base (L2.CX P w) 8 T.d_want_data.f T.d_want_data.fd ["book", "thing"] (WdSp K Z.CD) := by
  refine T.d_want_data.F.okX sc_want_data ?len (fun cdv A outer s H vs Q E hr h => ?_)
  case len =>
    rintro vs H Q E ⟨v, u, B, ys, y, rfl, _⟩
    rfl
  obtain ⟨v, u, B, ys, y, rfl, p, q, hB, hbad, k⟩ := h
  refine ⟨_, (pss_cons (ps_if (pt_not (pt_val (pe_call (ok_has_entries (P := P) (w := w) T) (hr.mono (by decide)) (by rfl) T.d_has_entries.g T.d_has_entries.F.kp T.d_has_entries.b .nil pass0 (pa_cons (pv 0) (pa_cons (pv 1) pa_nil)))))
      (pss_one (ps_raise rfl (takes_of rfl rfl rfl rfl) (pmk_oex (dvs := []) Z.tD.oex Z.tD.ini Z.S.ty (ok_refused_init Z.S) (hr.mono (by decide)) Z.bI .nil pass0 (by rfl) Z.gD (pa_cons (pe_un un_neg pe_int) pa_nil))))
      pss_nil)
      (pss_cons (ps_set (i := 2) sc_want_data.nd rfl (by first | exact Or.inl rfl | exact Or.inr rfl) (pe_call (ok_wrong_place (P := P) (w := w) T) (hr.mono (by decide)) (by rfl) T.d_wrong_place.g T.d_wrong_place.F.kp T.d_wrong_place.b .nil pass0 (pa_cons (pv 0) (pa_cons (pv 1) pa_nil))))
      (pss_one (ps_if (pt_cmpR op_notN (pv 2) pe_non (nomark _))
      (pss_one (ps_raise rfl (takes_of rfl rfl rfl rfl) (pmk_oex (dvs := []) Z.tD.oex Z.tD.ini Z.S.ty (ok_refused_init Z.S) (hr.mono (by decide)) Z.bI .nil pass0 (by rfl) Z.gD (pa_cons (pv 2) pa_nil))))
      pss_nil)))), ?_⟩
  rcases hbad with ⟨hne, rfl⟩ | ⟨hT, m, z, kk, rfl, h1, h2, h3⟩
  · refine q_whenD (x := true) (ET.is (et_not (et_B (ed_call (eds_cons (ed_var rfl p) (eds_cons (ed_var rfl q) eds_nil)) ⟨B, ys, rfl, rfl⟩))) (by rw [decide_eq_false hne]; rfl)) (fun _ H1 e => ?_) fun h => nomatch h
    exact rs_made Z.tD (ed_neg ed_int) (k.ex e)
  · refine q_whenD (x := false) (ET.is (et_not (et_B (ed_call (eds_cons (ed_var rfl p) (eds_cons (ed_var rfl q) eds_nil)) ⟨B, ys, rfl, rfl⟩))) (by rw [decide_eq_true hT.len]; rfl)) (fun h => nomatch h) fun _ H1 e => ?_
    refine q_asgD (ed_call (eds_cons (ed_var rfl (p.ex e)) (eds_cons (ed_var rfl (q.ex e)) eds_nil)) ⟨B, ys, rfl, hB, hT.len, hT.row, .inr ⟨m, z, kk, rfl, h1, h2, h3⟩⟩) fun z H2 e2 pz => ?_
    refine s_ifD (x := true) (et_test (ed_op (ed_var rfl pz) ed_non rd_notN)) (fun _ H3 e3 => ?_) fun h => nomatch h
    exact rs_made Z.tD (ed_var rfl (pz.ex e3)) (k.ex ((e.trans e2).trans e3))
/-- refused, and how -/
def MdSp (K : PySem.W.Frag) (CB CD : Addr) : Sp := fun vs H Q E => ∃ v u B, vs = [v, u] ∧ Dp K H v (bookD B) ∧ ((∃ ys y, Dp K H u (.tuple ys) ∧ bookB B ∧ BadD B ys y ∧ Wish K E H CD y) ∨ ∃ i : Nat, BadB B i ∧ Wish K E H CB (.int (i : Int)))
theorem okX_made_data (T : Txt K mg) (Z : ErrT P K mg) : FnOk P w K mg base (L2.CX P w) 9 T.d_made_data.f T.d_made_data.fd ["book", "thing"] (MdSp K Z.CB Z.CD) := by
  refine T.d_made_data.F.okX sc_made_data ?len (fun cdv A outer s H vs Q E hr h => ?_)
  case len =>
    rintro vs H Q E ⟨v, u, B, rfl, _⟩
    rfl
  obtain ⟨v, u, B, rfl, p, h⟩ := h
  refine ⟨_, (pss_cons (ps_set (i := 0) sc_made_data.nd rfl (by first | exact Or.inl rfl | exact Or.inr rfl) (pe_call (okX_made_book (w := w) T Z) (hr.mono (by decide)) (by rfl) T.d_made_book.g T.d_made_book.F.kp T.d_made_book.b .nil (passes_call (takes_of rfl rfl rfl rfl) fun _ _ _ _ h => h) (pa_cons (pv 0) pa_nil)))
      (pss_cons (ps_expr (pe_call (okX_want_data (w := w) T Z) (hr.mono (by decide)) (by rfl) T.d_want_data.g T.d_want_data.F.kp T.d_want_data.b .nil (passes_call (takes_of rfl rfl rfl rfl) fun _ _ _ _ h => h) (pa_cons (pv 0) (pa_cons (pv 1) pa_nil))))
      (pss_one (ps_ret (pv 1))))), ?_⟩
  rcases h with ⟨ys, y, q, hB, hbad, k⟩ | ⟨i, hbad, k⟩
  · refine q_asgR ⟨_, rfl, v, B, rfl, p, .inl ⟨hB, fun H1 e1 => ?_⟩⟩
    exact ⟨_, rfl, _, rfl, v, u, B, ys, y, rfl, p.ex e1, q.ex e1, hB, hbad, k.ex e1⟩
  · exact q_asgR ⟨_, rfl, v, B, rfl, p, .inr ⟨i, hbad, k⟩⟩
theorem okX_whole (T : Txt K mg) (Z : ErrT P K mg) : FnOk P w K mg base (L2.CX P w) 10 T.d_whole.f T.d_whole.fd ["book", "data"] (MdSp K Z.CB Z.CD) := by
  refine T.d_whole.F.okX sc_whole ?len (fun cdv A outer s H vs Q E hr h => ?_)
  case len =>
    rintro vs H Q E ⟨v, u, B, rfl, _⟩
    rfl
  obtain ⟨v, u, B, rfl, p, h⟩ := h
  refine ⟨_, (pss_cons (ps_set (i := 1) sc_whole.nd rfl (by first | exact Or.inl rfl | exact Or.inr rfl) (pe_call (okX_made_data (w := w) T Z) (hr.mono (by decide)) (by rfl) T.d_made_data.g T.d_made_data.F.kp T.d_made_data.b .nil (passes_call (takes_of rfl rfl rfl rfl) fun _ _ _ _ h => h) (pa_cons (pv 0) (pa_cons (pv 1) pa_nil))))
      (pss_one ps_never)), ?_⟩
  exact q_asgR ⟨_, rfl, _, rfl, v, u, B, rfl, p, h⟩
end
end BB
/-! G10: t[::-1] of a tuple, t * n for every n from 1 on. -/
namespace L2
open PySem PySem.Spec PyProof.Rows HT
section
variable {prog : Program} {w : World} {A : Around} {E : Value → Shared → Prop} {s : Shared}
theorem places_back (n : Nat) : Builtin.Slice.slicePlaces ((n : Int) - 1) (-1) (-1) = n := by
  unfold Builtin.Slice.slicePlaces
  rw [if_neg (by decide)]
  by_cases h : n = 0
  · subst h; rfl
  · rw [if_pos (by omega)]
    have : (-(-1 : Int)) = 1 := by decide
    rw [this, Int.ediv_one]
    omega
theorem adjust_back (n : Nat) : Builtin.Slice.sliceAdjust none none (-1) (n : Int) = ((n : Int) - 1, -1) := by
  unfold Builtin.Slice.sliceAdjust
  simp
theorem sliceApplied_back {sl : Addr} {vs : Value} {n : Nat} {Q : Int × Int × Nat → Shared → Prop} (hs : s.heap.IsSliceOf sl .none .none vs) (ps : IsPart vs (some (-1))) (h : Q ((n : Int) - 1, -1, n) s) :
    wpAny (model prog w) A (Builtin.Slice.sliceApplied (.ref sl) (pure (n : Int))) Q E s := by
  obtain ⟨os, hos, hcs, hds⟩ := id hs
  unfold Builtin.Slice.sliceApplied Builtin.Slice.sliceFields
  refine wpAny_bind (wpAny_bind (wpAny_field hos hds (x := .none) rfl (wpAny_bind (wpAny_field hos hds (x := .none) rfl (wpAny_bind (wpAny_field hos hds (x := vs) rfl (wpAny_pure ?_)))))))
  refine wpAny_bind (slicePart_ ps ?_)
  show wpAny _ _ (if ((-1 : Int) == 0) = true then _ else _) _ _ s
  rw [if_neg (by decide)]
  refine wpAny_bind (slicePart_ .none (wpAny_bind (slicePart_ .none (wpAny_bind (wpAny_pure ?_)))))
  show wpAny _ _ (match Builtin.Slice.sliceAdjust none none (-1) (n : Int) with | (lo, hi) => pure (lo, (-1 : Int), Builtin.Slice.slicePlaces lo hi (-1))) _ _ s
  rw [adjust_back]
  show wpAny _ _ (pure (((n : Int) - 1), (-1 : Int), Builtin.Slice.slicePlaces ((n : Int) - 1) (-1) (-1))) _ _ s
  rw [places_back]
  exact wpAny_pure h
theorem filterMap_some {α β : Type} {f : α → Option β} {g : α → β} : ∀ {l : List α}, (∀ k ∈ l, f k = some (g k)) → l.filterMap f = l.map g
  | [], _ => rfl
  | a :: l, h => by
    rw [List.filterMap_cons, h a List.mem_cons_self, List.map_cons, ← filterMap_some fun k hk => h k (List.mem_cons_of_mem _ hk)]
theorem pick_back (xs : Array Value) : ((List.range xs.size).filterMap fun (k : Nat) => xs[(((xs.size : Int) - 1) + (k : Int) * (-1)).toNat]?) = xs.toList.reverse := by
  have e : ∀ k ∈ List.range xs.size, xs[(((xs.size : Int) - 1) + (k : Int) * (-1)).toNat]? = some (xs.toList.reverse.getD k default) := fun k hk => by
    have hk := List.mem_range.mp hk
    have e1 : (((xs.size : Int) - 1) + (k : Int) * (-1)).toNat = xs.size - 1 - k := by omega
    have hl : k < xs.toList.reverse.length := by rw [List.length_reverse, Array.length_toList]; exact hk
    rw [e1, List.getD_eq_getElem?_getD, List.getElem?_eq_getElem hl, List.getElem_reverse, Array.getElem?_eq_getElem (by omega)]
    simp
  have e2 : ((List.range xs.size).filterMap fun (k : Nat) => xs[(((xs.size : Int) - 1) + (k : Int) * (-1)).toNat]?) = (List.range xs.size).map fun k => xs.toList.reverse.getD k default := filterMap_some e
  rw [e2]
  refine List.ext_getElem (by simp) fun i h1 h2 => ?_
  rw [List.getElem_map, List.getElem_range, List.getD_eq_getElem?_getD, List.getElem?_eq_getElem h2]
  rfl
theorem getItem_tuple_back {t sl : Addr} {items : Array Value} {vs : Value} {Q : Value → Shared → Prop} (ht : IsTup s.heap t items) (hs : s.heap.IsSliceOf sl .none .none vs) (ps : IsPart vs (some (-1)))
    (h : Q (.ref s.heap.objs.size) { s with heap := s.heap.push { cls := .type "tuple", data := .seq items.toList.reverse.toArray } }) (hsz : items.size ≤ sizeLine) : wpAny (model prog w) A (getItem (.ref t) (.ref sl)) Q E s := by
  obtain ⟨os, hos, hcs, hds⟩ := id hs
  have hTs : s.TypeIs (.ref sl) "slice" := ⟨os, hos, hcs⟩
  have hok : sizeOk (.seq items.toList.reverse.toArray) := by
    show items.toList.reverse.toArray.size ≤ sizeLine
    rw [List.size_toArray, List.length_reverse, Array.length_toList]
    exact hsz
  unfold getItem
  try with_reducible refine wpAny_holding ?_
  first | refine wpAny_bind (wpAny_pure ?_) | skip
  refine wpAny_bind (wpAny_sequenceKey ht.typeIs (by decide) ?_)
  refine wpAny_bind (wpAny_callSpecial?_slot (name := Str.ofString "__getitem__") ht.typeIs PyProof.Rows.slot_tuple_getitem
    (wpAny_call_entry PyProof.Rows.slot_tuple_getitem ht.typeIs entry_tuple_getitem ?_ (args_tuple_getitem _ _)))
  show wpAny _ _ (Builtin.Tuple.tupleItemsOf (.ref t) >>= _) _ _ s
  refine wpAny_bind (tupleItemsOf_ ht (wpAny_bind (wpAny_typeOf hTs ?_)))
  rw [if_pos (by decide)]
  refine wpAny_bind (sliceApplied_back hs ps ?_)
  have hno : ¬ ((((items.size : Int) - 1) == 0 && (-1 : Int) == 1 && items.size == items.size) = true) := by simp
  show wpAny _ _ (if (((items.size : Int) - 1) == 0 && (-1 : Int) == 1 && items.size == items.size) = true then _ else _) _ _ s
  rw [if_neg hno, pick_back]
  first
    | exact wpAny_bind (m := Builtin.Tuple.tupleExact _) (wpAny_newObj_type (wpAny_pure ⟨_, rfl, wpAny_pure h⟩) hok)
    | exact wpAny_bind (m := Builtin.Tuple.tupleExact _) (wpAny_newObj_type (wpAny_bind (wpAny_pure (wpAny_pure ⟨_, rfl, wpAny_pure h⟩))) hok)
    | exact wpAny_bind (wpAny_bind (m := Builtin.Tuple.tupleExact _) (wpAny_newObj_type (wpAny_pure (wpAny_pure ⟨_, rfl, wpAny_pure h⟩)) hok))
    | exact wpAny_bind (wpAny_bind (m := Builtin.Tuple.tupleExact _) (wpAny_newObj_type (wpAny_pure ⟨_, rfl, wpAny_pure h⟩) hok))
end
section
variable {X : Cx}
def tRevT (K : PySem.W.Frag) (te : TE) : TE := fun σ H Q => te σ H fun x H1 => ∃ a xs, x = .ref a ∧ SqT K H1 a xs ∧ ∀ p, H1 p = none → Q (.ref p) (upd H1 p (.tup xs.reverse))
theorem pe_revT {e : Expr} {te : TE} {k : Nat} {p1 p2 p3 pos : Pos} (he : PE X e te) : PE X (.Subscript e (.Slice none none (some (.UnaryOp .USub (.Constant (.int 1) k p1) p2)) p3) pos) (tRevT X.K te) := by
  refine ⟨fun pins s σ H Q I h => Subscript_ (thn (he.run pins s σ H _ I h) fun v s1 ⟨x, H1, I1, r1, a, xs, ex, hx, q⟩ => ?_)⟩
  subst ex
  cases r1
  have hst : PO X (some (.UnaryOp .USub (.Constant (.int 1) k p1) p2)) (tPart (tUn (rU fun i => .int (-i)) (tC (.int 1)))) := po_some (pe_un un_neg pe_int)
  refine wpAny_Slice (thn (po_none.run pins s1 σ H1 (fun o H2 => o = none ∧ H2 = H1) I1 ⟨rfl, rfl⟩) fun vl s2 ⟨l, H2, I2, pl, el, e2⟩ => ?_)
  subst el e2
  refine thn (po_none.run pins s2 σ H2 (fun o H3 => o = none ∧ H3 = H2) I2 ⟨rfl, rfl⟩) fun vu s3 ⟨u, H3, I3, pu, eu, e3⟩ => ?_
  subst eu e3
  refine thn (hst.run pins s3 σ H3 (fun o H4 => o = some (-1) ∧ H4 = H3) I3 ⟨1, rfl, -1, rfl, rfl, rfl⟩) fun vs s4 ⟨o, H4, I4, ps, eo, e4⟩ => ?_
  subst eo e4
  have I5 : Inv X pins σ H4 { s4 with heap := s4.heap.push { cls := .type "slice", data := .fields #[vl, vu, vs] } } := I4.kept (t' := s4.toks) fun b ob q => Heap.get?_push_of_some _ q
  obtain ⟨its, r, ht, hz⟩ := I5.tuple hx
  have hlen := r.length
  cases pl
  cases pu
  show wpAny (model X.prog X.w) X.A (subscriptTail e (.Slice none none (some (.UnaryOp .USub (.Constant (.int 1) k p1) p2)) p3) (.ref a) (.ref s4.heap.objs.size)) (EP X pins σ Q) X.xe { s4 with heap := s4.heap.push { cls := .type "slice", data := .fields #[.none, .none, vs] } }
  refine tail_any (ops := [.ref a, .ref s4.heap.objs.size]) ht.typeIs (PyProof.Rows.slot_tuple_getitem.lookup) ?_ (by with_unfolding_all rfl)
  refine getItem_tuple_back ht (Heap.IsSliceOf.new _ .none .none vs) ps ?_ (by rw [List.size_toArray]; omega)
  refine ⟨.ref _, _, I5.laid (t' := s4.toks) (o := .tup xs.reverse) (fun b ob q => Heap.get?_push_of_some _ q) (Nat.le_refl _) ?_, rfl, q _ (I5.hok.fresh (Nat.le_refl _))⟩
  exact ⟨by rw [List.length_reverse]; exact hz, _, r.reverse, IsTup.new _ _⟩
end
theorem tuple_mul1 (l : Addr) (items : Array Value) (n : Nat) (dd : Option Addr) (sl : Array (Option Value)) (u : Tok) :
    Meets (Builtin.«tuple.__mul__» ⟨[.ref l, .int 1 u], []⟩) (fun _ R s => s.heap.get? l = some { cls := .type "tuple", dict := dd, data := .seq items n, slots := sl } ∧ R (.ok (.ret (Value.ref l))) s) :=
  .of_wp fun prog w A R s h => by
    obtain ⟨hp, g, d, tk, os⟩ := s
    obtain ⟨hl, h⟩ := h
    have f1 := AutoSeq1.idx_int
    wp_walk using wpAny_loadPart' hl
    exact ⟨_, rfl, h⟩
/-- t * k, k from 1 on: t itself, or a new tuple -/
def rRepA (K : PySem.W.Frag) : R2 := fun x y H Q => ∃ l k xs, x = .ref l ∧ y = .int k ∧ SqT K H l xs ∧ xs ≠ [] ∧ 1 ≤ k ∧ k ≤ 1000 ∧ xs.length ≤ 1000 ∧ (k = 1 → Q (.ref l) H) ∧ (k ≠ 1 → ∀ p, H p = none → Q (.ref p) (upd H p (.tup (List.replicate k.toNat xs).flatten)))
theorem op_repA {X : Cx} : OpR X (binaryOp .Mult) (rRepA X.K) := by
  intro pins s σ H x y v u Q I rx ry h
  obtain ⟨l, k, xs, rfl, rfl, hT, hne, h1, h2, hz, q1, q2⟩ := h
  by_cases hk : k = 1
  · subst hk
    cases rx
    obtain ⟨t, rfl⟩ := ry
    obtain ⟨its, r, ⟨⟨cls, dd, data, sl⟩, ho, hc, n, hd⟩, hs⟩ := I.tuple hT
    simp only at hc hd
    subst hc hd
    exact wpAny_binaryOp_repeat_ref (T := "tuple") (U := "int") (by decide) ⟨_, ho, rfl⟩ (fun s' => typeIs_int s' 1 t) noFill_tuple_mul F.fills_int_mul F.slot_int_rmul repeat_tuple F.slot_int_index.lookup
      (call_meets F.slot_int_rmul (typeIs_int s 1 t) F.entry_int_rmul (F.args_int_rmul_2 _ _) (int_rmul_tuple 1 t l its.toArray n dd sl)
        ⟨ho, rfl, ⟨_, ho, rfl⟩, call_meets F.slot_tuple_mul ⟨_, ho, rfl⟩ F.entry_tuple_mul (F.args_tuple_mul_2 _ _) (tuple_mul1 l its.toArray n dd sl t) ⟨ho, ⟨.ref l, H, I, rfl, q1 rfl⟩⟩⟩)
  · exact op_repT pins s σ H _ _ v u Q I rx ry ⟨l, k, xs, rfl, rfl, hT, hne, by omega, h2, hz, q2 hk⟩
end L2
namespace BB
open PySem L2 Evl
section
variable {K : PySem.W.Frag} {σ : L2.St} {H : Hp} {te : TE} {ds : List PyData} {d : PyData} {n : Nat}
theorem repAK {X : Cx} (h : X.K = K := by rfl) : OpR X (binaryOp .Mult) (rRepA K) := h ▸ op_repA
theorem revTK {X : Cx} {e : Expr} {te : TE} {k : Nat} {p1 p2 p3 pos : Pos} (he : PE X e te) (h : X.K = K := by rfl) : PE X (.Subscript e (.Slice none none (some (.UnaryOp .USub (.Constant (.int 1) k p1) p2)) p3) pos) (tRevT K te) := h ▸ pe_revT he
theorem rd_rep (hn : 1 ≤ n) (h2 : n ≤ 1000) : RD K (rRepA K) (.tuple [d]) (.int (n : Int)) (.tuple (List.replicate n d)) := fun H x y px py Q q => by
  obtain ⟨a, xs, rfl, h1, h3⟩ := dp_tup px
  obtain ⟨v, rfl, hv⟩ := dpa1 h3
  have rep : ∀ {H' : Hp} (m : Nat), Dp K H' v d → DpAll K H' (List.replicate m [v]).flatten (List.replicate m d) := fun m hv => by
    induction m with
    | zero => exact .nil
    | succ m ih => rw [List.replicate_succ, List.replicate_succ, List.flatten_cons]; exact .cons hv ih
  refine ⟨a, n, [v], rfl, dp_int py, h1, by simp, by omega, by omega, by show 1 ≤ 1000; omega, fun hk => ?_, fun _ p hp => ?_⟩
  · have : n = 1 := by omega
    subst this
    exact q _ H (Ex.refl _) px
  · rw [Int.toNat_natCast]
    exact q _ _ (Ex.new hp) (.tup (.inl (.inl upd_same)) (rep n (hv.ex (Ex.new hp))))
theorem dpa_rev {H : Hp} : ∀ {xs : List V} {ds : List PyData}, DpAll K H xs ds → DpAll K H xs.reverse ds.reverse
  | _, _, .nil => .nil
  | _, _, .cons h t => by
    rw [List.reverse_cons, List.reverse_cons]
    exact (dpa_rev t).app (.cons h .nil)
theorem ed_rev (h : ED K te σ H (.tuple ds)) : ED K (tRevT K te) σ H (.tuple ds.reverse) := fun H1 e Q q =>
  h H1 e _ fun v H2 e2 p => by
    obtain ⟨a, xs, rfl, h1, h2⟩ := dp_tup p
    exact ⟨a, xs, rfl, h1, fun z hz => q _ _ (e2.trans (Ex.new hz)) (.tup (.inl (.inl upd_same)) (dpa_rev (h2.ex (Ex.new hz))))⟩
end
end BB
/-! L22: heard: what a refusal tells. -/
namespace BB
open PySem L2 Evl LamX NdefX
/-- what is told of an exception: its kind and what it bears -/
def Told (CB CD : Addr) (Q : VK) : XK := fun cls dd H' => ∃ (d : Addr) (v : V), dd = some d ∧ H' d = some (.xd [(nmWhat, v)]) ∧
  ((cls = .ref CB ∧ ∀ p, H' p = none → Q (.ref p) (upd H' p (.tup [.str (PySem.Str.ofString "book"), v]))) ∨ (cls = .ref CD ∧ ∀ p, H' p = none → Q (.ref p) (upd H' p (.tup [.str (PySem.Str.ofString "data"), v]))))
def THeard (CB CD : Addr) : (XK → Hp → VK → Prop) → Hp → VK → Prop := fun tl H Q => tl (Told CB CD Q) H (fun _ H' => Q .non H')
theorem takes_len {X : Cx} {W : WX} (tk : Takes X W) : Takes X (fun cls d σ H => σ.length = X.N.length → W cls d σ H) := fun u s' x => by
  obtain ⟨a, B, sI, pins, σ, H, cls, d, e, I, nb, up, sky, na, os, ag, w⟩ := x
  exact tk u s' ⟨a, B, sI, pins, σ, H, cls, d, e, I, nb, up, sky, na, os, ag, w I.len⟩
abbrev nsHeard : List Str := ["_law_call", "fault"]
theorem sc__law_heard : FnScope nsHeard ["_law_call"] (defScope st__law_heard) := ⟨rfl, rfl, rfl, by decide +kernel, rfl, by decide +kernel, by decide +kernel⟩
theorem heard_gives {X : Cx} {P : Program} {g : Addr} {cdg : Value} {q : Str} (Z : ErrT P X.K X.mg) : GivesTo X nsHeard "_law_heard" (defScope st__law_heard) g cdg (defBody st__law_heard) "_law_call" q (THeard Z.CB Z.CD) := by
  intro f c' s H Q tl act hc h
  let X1 := (cxOf C8.CX0 X.prog X.w X.K X.mg X.base nsHeard "_law_heard" (defScope st__law_heard) g cdg X.A X.stack s H C8.E0).nox
  let ts : Addr → Str → Addr → Value → Option Addr → TS := fun C x a cls d => tRet (tTup (tCons (tC (.str x)) (tCons (tXf a cls d C nmWhat (tVar 1)) tNil)))
  have suite : ∀ (C : Addr) (T : ExcT X.K Z.D Z.fI C) (x : Str) (k k2 : Nat) (p1 p2 p3 p4 p5 : Pos) (a : Addr) (oe : Obj) (cls : Value) (d : Option Addr) (pn : List (Addr × Obj)), Zc cls d oe → (∃ vs, oe.data = .fields vs) →
      PSs (X1.suite a ((a, oe) :: pn)) [.Return (some (.Tuple [.Constant (.str x) k p1, .Attribute (.Name "fault" p2) nmWhat p3] k2 p4)) p5] (ts C x a cls d) := fun C T x k k2 p1 p2 p3 p4 p5 a oe cls d pn hz hf =>
    pss_one (ps_ret (pe_tup (pa_cons pe_str (pa_cons (pe_xf (X := X1) T.xf T.fw hz hf (pv (X := X1.suite a ((a, oe) :: pn)) 1)) pa_nil))))
  let tb : WX → TS := fun W D σ H => ∃ Ech : XK, (∀ cls d σ' H', Ech cls d H' → σ'.length = 2 → W cls d σ' H') ∧ σ[0]? = some (some (.ref f)) ∧ H c' = some (CodeO c' q) ∧ tl Ech H (fun _ H' => D.nx σ H')
  refine ⟨_, pss_cons (ps_try_manyAs (X := X1) (Wout := fun _ _ _ _ => False) (tb := tb) (l := [(.ref Z.CB, 1, ts Z.CB "book"), (.ref Z.CD, 1, ts Z.CD "data"), (.ref Z.D, 1, ts Z.CD "other")]) rfl rfl sc__law_heard.nd LamX.takes0 (fun W pn xe tk _ => ?_) ?hd) (pss_one (ps_ret pe_non)), ?_⟩
  case hd =>
    exact .cons (x := "BadBook") (n := "fault") ⟨rfl, by decide, .inl Z.gB⟩ rfl rfl (suite Z.CB Z.tB "book" _ _ _ _ _ _ _) (.cons (x := "BadData") (n := "fault") ⟨rfl, by decide, .inl Z.gD⟩ rfl rfl (suite Z.CD Z.tD "data" _ _ _ _ _ _ _) (.cons (x := "Refused") (n := "fault") ⟨rfl, by decide, .inl Z.gR⟩ rfl rfl (suite Z.CD Z.tD "other" _ _ _ _ _ _ _) .nil))
  · refine ⟨fun pins s' σ H' D I h' => ?_⟩
    obtain ⟨Ech, hW, h1, h2, h3⟩ := h'
    exact (pss_one (ps_expr (act (fun cls d σ H => σ.length = 2 → W cls d σ H) pn xe Ech _ _ (takes_len tk) hW))).run pins s' σ H' D I ⟨h1, h2, h3⟩
  · refine ⟨Told Z.CB Z.CD Q, fun cls dd σ' H' ht hl => ?_, rfl, hc, h⟩
    obtain ⟨x0, x1, rfl⟩ : ∃ x0 x1, σ' = [x0, x1] := by
      match σ', hl with
      | [a, b], _ => exact ⟨a, b, rfl⟩
    obtain ⟨d, v, rfl, hd, hk⟩ := ht
    rcases hk with ⟨rfl, hq⟩ | ⟨rfl, hq⟩
    · refine ⟨true, Z.mBB, fun _ a _ => ⟨_, rfl, rfl, rfl, d, _, v, rfl, hd, by simp [List.lookup], ?_⟩, fun h => nomatch h⟩
      exact ⟨by show 2 ≤ sizeLine; exact sz_of (by decide), fun p hp => hq p hp⟩
    · refine ⟨false, Z.mDB, (fun h => nomatch h), fun _ => ⟨true, Z.mDD, fun _ a _ => ⟨_, rfl, rfl, rfl, d, _, v, rfl, hd, by simp [List.lookup], ?_⟩, fun h => nomatch h⟩⟩
      exact ⟨by show 2 ≤ sizeLine; exact sz_of (by decide), fun p hp => hq p hp⟩
end BB
/-! M8: data that are bent, things that are not the whole. -/
namespace BB
open PySem L2 Evl
section
variable {B : List (List Int)} {R : List (List (List Int))}
def putAt (ys : List PyData) (i : Nat) (z : PyData) : List PyData := ys.take i ++ [z] ++ ys.drop (i + 1)
theorem putAt_len {ys : List PyData} {i : Nat} {z : PyData} (h : i < ys.length) : (putAt ys i z).length = ys.length := by
  unfold putAt
  rw [List.length_append, List.length_append, List.length_take, List.length_drop, List.length_singleton]
  omega
theorem putAt_same {ys : List PyData} {i : Nat} {z : PyData} (h : i < ys.length) : (putAt ys i z)[i]? = some z := by
  unfold putAt
  have h1 : (ys.take i).length = i := by rw [List.length_take]; omega
  rw [List.append_assoc, List.getElem?_append_right (by omega), h1, Nat.sub_self]
  rfl
theorem putAt_before {ys : List PyData} {i m : Nat} {z : PyData} (h : i < ys.length) (hm : m < i) : (putAt ys i z)[m]? = ys[m]? := by
  unfold putAt
  rw [List.append_assoc, List.getElem?_append_left (by rw [List.length_take]; omega), List.getElem?_take_of_lt hm]
theorem putAt_mem {ys : List PyData} {i : Nat} {y z : PyData} (h : y ∈ putAt ys i z) : y = z ∨ y ∈ ys := by
  unfold putAt at h
  rcases List.mem_append.mp h with h | h
  · rcases List.mem_append.mp h with h | h
    · exact .inr (List.mem_of_mem_take h)
    · exact .inl (List.mem_singleton.mp h)
  · exact .inr (List.mem_of_mem_drop h)
/-- the data with one table bent -/
theorem bent_data (hD : DataG B R) {i : Nat} (hi : i < B.length) {z : PyData} (hz : RsT z) : DataT B (putAt (R.map rowsD) i z) := by
  have hT := hD.t
  have hl : i < (R.map rowsD).length := by rw [hT.len]; exact hi
  refine ⟨by rw [putAt_len hl, hT.len], fun y hy => ?_⟩
  rcases putAt_mem hy with rfl | hy
  · exact hz
  · exact hT.row y hy
theorem bent_bad (hD : DataG B R) {i : Nat} (hi : i < B.length) {z : PyData} {kk : Int} (hz : RsT z) (hb : BadAt (B.getD i []) z kk) : BadD B (putAt (R.map rowsD) i z) (.tuple [.int (i : Int), .int kk]) := by
  have hT := hD.t
  have hl : i < (R.map rowsD).length := by rw [hT.len]; exact hi
  refine .inr ⟨bent_data hD hi hz, i, z, kk, rfl, putAt_same hl, hb, fun m' y' hm hy => ?_⟩
  rw [putAt_before hl hm] at hy
  exact hD.good m' y' hy
theorem bent_not (hD : DataG B R) {i : Nat} (hi : i < B.length) {z : PyData} {kk : Int} (hb : BadAt (B.getD i []) z kk) : ∃ (m : Nat) (y : PyData), (putAt (R.map rowsD) i z)[m]? = some y ∧ ¬ GoodRows (B.getD m []) y :=
  ⟨i, z, putAt_same (by rw [hD.t.len]; exact hi), bad_good hb⟩
/-- an odd row behind the rows of a table -/
theorem odd_row (hD : DataG B R) {i : Nat} (hi : i < B.length) {d : PyData} (hr : RT d) (hn : ¬ isRow (B.getD i []) d) : RsT (.tuple ((R.getD i []).map schD ++ [d])) ∧ BadAt (B.getD i []) (.tuple ((R.getD i []).map schD ++ [d])) ((R.getD i []).length : Nat) := by
  have hiR : i < R.length := by rw [hD.len]; exact hi
  have hg := getD_of (d := []) hiR
  have hm : R.getD i [] ∈ R := List.mem_of_getElem? hg
  have hf := hD.few _ hm
  refine ⟨.inr ⟨_, rfl, by rw [List.length_append, List.length_map]; show _ + 1 ≤ 40; omega, fun x hx => ?_⟩, .inr ⟨_, (R.getD i []).length, d, rfl, rfl, by rw [List.getElem?_append_right (by rw [List.length_map]; omega), List.length_map, Nat.sub_self]; rfl, .inl hn, fun m' d' hm' hd' => ?_⟩⟩
  · rcases List.mem_append.mp hx with hx | hx
    · obtain ⟨r, hrr, rfl⟩ := List.mem_map.mp hx
      refine .inl ⟨r, rfl, ?_⟩
      obtain ⟨k, hk⟩ := List.getElem?_of_mem hrr
      have hkl := (List.getElem?_eq_some_iff.mp hk).1
      have h1 := hD.rowlen hkl
      have h2 := schB_len (hD.book.2.2 _ (getD_mem hi))
      rw [List.getD_eq_getElem?_getD (l := R.getD i []), hk] at h1
      have h1 : r.length = (B.getD i []).length := h1
      omega
    · rw [List.mem_singleton.mp hx]; exact hr
  · rw [List.getElem?_append_left (by rw [List.length_map]; omega)] at hd'
    obtain ⟨r, hrr, rfl⟩ := map_get hd'
    refine ⟨⟨r, rfl, hD.row i _ hg r (List.mem_of_getElem? hrr)⟩, fun hc => ?_⟩
    rw [List.take_append_of_le_length (by rw [List.length_map]; omega), ← List.map_take] at hc
    exact nodup_take (hD.nodup _ hm) hrr (schD_mem.mp hc)
theorem none_bad (s : List Int) : RsT .none ∧ BadAt s .none (-1) := ⟨.inl rfl, .inl ⟨rfl, rfl⟩⟩
theorem more_bad (hD : DataG B R) : BadD B (R.map rowsD ++ [.tuple []]) (.int (-1)) := .inl ⟨by rw [List.length_append, List.length_map, hD.len]; show _ + 1 ≠ _; omega, rfl⟩
theorem book_bad (hB : bookB B) (h4 : B.length ≤ 4) : BadB (B ++ [[]]) B.length := by
  have hl : (B ++ [[]]).length = B.length + 1 := by rw [List.length_append]; rfl
  refine ⟨by omega, by omega, ⟨by omega, fun s hs => ?_⟩, [], ?_, rfl, fun m s' hm hs => ?_⟩
  · rcases List.mem_append.mp hs with hs | hs
    · exact hB.small.2 s hs
    · rw [List.mem_singleton.mp hs]; exact Nat.zero_le _
  · rw [List.getElem?_append_right (Nat.le_refl _), Nat.sub_self]; rfl
  · rw [List.getElem?_append_left hm] at hs
    exact hB.2.2 _ (List.mem_of_getElem? hs)
/-! ### odd rows -/
def oddD (s : List Int) : List PyData := [.none, .tuple (List.replicate (s.length + 1) (.int 0)), .tuple (List.replicate s.length (.int (-1))), .tuple (List.replicate s.length (.int 1000000)), .str "row"]
theorem rep_sch (n : Nat) (i : Int) : PyData.tuple (List.replicate n (.int i)) = schD (List.replicate n i) := by
  show _ = PyData.tuple ((List.replicate n i).map PyData.int)
  rw [List.map_replicate]
theorem odd_ok {s : List Int} (h1 : 1 ≤ s.length) (h2 : s.length ≤ 8) {d : PyData} (hd : d ∈ oddD s) : RT d ∧ ¬ isRow s d := by
  have key : ∀ (n : Nat) (i : Int), n ≤ 9 → (n ≠ s.length ∨ worthB i = false) → RT (.tuple (List.replicate n (.int i))) ∧ ¬ isRow s (.tuple (List.replicate n (.int i))) := fun n i hn hbad => by
    rw [rep_sch]
    refine ⟨.inl ⟨_, rfl, by rw [List.length_replicate]; omega⟩, ?_⟩
    rintro ⟨r, e, hr⟩
    have e := schD_inj e
    subst e
    unfold rowB at hr
    rw [Bool.and_eq_true, decide_eq_true_eq, List.length_replicate, List.all_eq_true] at hr
    rcases hbad with h | h
    · exact h hr.1
    · have := hr.2 i (List.mem_replicate.mpr ⟨by omega, rfl⟩)
      rw [h] at this; cases this
  unfold oddD at hd
  simp only [List.mem_cons, List.not_mem_nil, or_false] at hd
  rcases hd with rfl | rfl | rfl | rfl | rfl
  · exact ⟨.inr (.inl rfl), fun ⟨r, e, _⟩ => nomatch e⟩
  · exact key _ _ (by omega) (.inl (by omega))
  · exact key _ _ (by omega) (.inr (by decide))
  · exact key _ _ (by omega) (.inr (by decide))
  · exact ⟨.inr (.inr ⟨_, rfl, by decide +kernel⟩), fun ⟨r, e, _⟩ => nomatch e⟩
/-! ### things that are not the whole -/
def thingsD (B : List (List Int)) (G : List Tags) : List PyData := [lotsD (G ++ G.take 1), lotsD (G.drop 1), .none, lotsD G.reverse, lotsD (G ++ [List.replicate B.length none]), .str "lots"]
theorem things_ok {G : List Tags} (hl : G.length ≤ 500) (hG : ∀ t ∈ G, t.length = B.length ∧ InR R t) {d : PyData} (hd : d ∈ thingsD B G) : ThingT B R d ∧ tupled d = true ∧ d.depth ≤ 60 := by
  have key : ∀ ts : List Tags, ts.length ≤ 1000 → (∀ t ∈ ts, t.length = B.length ∧ InR R t) → ThingT B R (lotsD ts) ∧ tupled (lotsD ts) = true ∧ (lotsD ts).depth ≤ 60 := fun ts h1 h2 =>
    ⟨.inr (.inr ⟨ts, rfl, h1, h2⟩), tupled_lots ts, by have := depth_lots ts; omega⟩
  unfold thingsD at hd
  simp only [List.mem_cons, List.not_mem_nil, or_false] at hd
  rcases hd with rfl | rfl | rfl | rfl | rfl | rfl
  · refine key _ (by rw [List.length_append, List.length_take]; omega) fun t ht => ?_
    rcases List.mem_append.mp ht with ht | ht
    · exact hG t ht
    · exact hG t (List.mem_of_mem_take ht)
  · exact key _ (by rw [List.length_drop]; omega) fun t ht => hG t (List.mem_of_mem_drop ht)
  · exact ⟨.inl rfl, rfl, by decide⟩
  · exact key _ (by rw [List.length_reverse]; omega) fun t ht => hG t (List.mem_reverse.mp ht)
  · refine key _ (by rw [List.length_append, List.length_singleton]; omega) fun t ht => ?_
    rcases List.mem_append.mp ht with ht | ht
    · exact hG t ht
    · rw [List.mem_singleton.mp ht]
      refine ⟨List.length_replicate, fun m k h => ?_⟩
      have := List.mem_replicate.mp (List.mem_of_getElem? h)
      cases this.2
  · exact ⟨.inr (.inl ⟨_, rfl, by decide +kernel⟩), by decide +kernel, by decide⟩
theorem eqv_swap {d e : PyData} (hd : tupled d = true) (he : tupled e = true) : PyData.eqv d e = PyData.eqv e d := by
  have h1 := eqv_tupled d e hd he
  have h2 := eqv_tupled e d he hd
  cases q : PyData.eqv d e with
  | true => exact (h2.mpr (h1.mp q).symm).symm
  | false =>
    cases q2 : PyData.eqv e d with
    | false => rfl
    | true => rw [h1.mpr (h2.mp q2).symm] at q; cases q
end
end BB
/-! L23: bent_right. -/
namespace BB
open PySem L2 Evl LamX NdefX
section
variable {K : PySem.W.Frag} {TL : List (Addr × Str)} {σ : L2.St} {H H' : Hp} {te : TE} {ta : TA} {t : TT} {B : List (List Int)} {D : Ends} {tz tu : TS} {d : PyData} {ds : List PyData} {CB CD : Addr}
/-! ### refusals told, as data -/
theorem edn_heardD {ys : List PyData} {y : PyData} (ha : ∀ H1, ExtN H H1 → EDs K ta σ H1 [bookD B, .tuple ys]) (hB : bookB B) (hb : BadD B ys y) : EDn K TL (tLam TL (THeard CB CD) (fun E => tCall (MdSp K CB CD) [] E ta)) σ H (.tuple [.str (PySem.Str.ofString "data"), y]) := fun H1 e T Q q =>
  ⟨T, fun H2 e2 T2 => ha H2 (ExtN.trans e e2) H2 (Ex.refl _) _ fun vs H3 e3 p => by
    obtain ⟨v, u, rfl, pv, pu⟩ := dpa2 p
    refine ⟨v, u, B, rfl, pv, .inl ⟨ys, y, pu, hB, hb, fun dd v' H4 e4 p4 h4 => ⟨dd, v', rfl, h4, .inr ⟨rfl, fun p hp => ?_⟩⟩⟩⟩
    have e5 := Ex.new (o := .tup [.str (PySem.Str.ofString "data"), v']) hp
    exact q _ _ (ExtN.trans e2 (ExtN.of (e3.trans (e4.trans e5)))) (T2.ext (e3.trans (e4.trans e5))) (.tup (.inl (.inl upd_same)) (.cons (.str _) (.cons (p4.ex e5) .nil)))⟩
theorem edn_heardB {i : Nat} {d : PyData} (ha : ∀ H1, ExtN H H1 → EDs K ta σ H1 [bookD B, d]) (hb : BadB B i) : EDn K TL (tLam TL (THeard CB CD) (fun E => tCall (MdSp K CB CD) [] E ta)) σ H (.tuple [.str (PySem.Str.ofString "book"), .int (i : Int)]) := fun H1 e T Q q =>
  ⟨T, fun H2 e2 T2 => ha H2 (ExtN.trans e e2) H2 (Ex.refl _) _ fun vs H3 e3 p => by
    obtain ⟨v, u, rfl, pv, pu⟩ := dpa2 p
    refine ⟨v, u, B, rfl, pv, .inr ⟨i, hb, fun dd v' H4 e4 p4 h4 => ⟨dd, v', rfl, h4, .inl ⟨rfl, fun p hp => ?_⟩⟩⟩⟩
    have e5 := Ex.new (o := .tup [.str (PySem.Str.ofString "book"), v']) hp
    exact q _ _ (ExtN.trans e2 (ExtN.of (e3.trans (e4.trans e5)))) (T2.ext (e3.trans (e4.trans e5))) (.tup (.inl (.inl upd_same)) (.cons (.str _) (.cons (p4.ex e5) .nil)))⟩
theorem sn_skip (T : Tabs TL H) (h : EvTn TL t σ H false) (k : ∀ H1, ExtN H H1 → Tabs TL H1 → D.nx σ H1) : tIfS t tu tNext D σ H := h H (ExtN.refl _) T _ fun H1 e T1 => k H1 e T1
theorem rcd_reprB {b : Bool} : RCD K (rRepr K) [.bool b] (.str (if b then "True" else "False")) := fun H vs p Q q => by
  obtain ⟨v, rfl, pv⟩ := dpa1 p
  cases dp_bl pv
  exact .inr ⟨b, rfl, q _ H (Ex.refl _) (.str _)⟩
theorem ei_lstN (h : ED K te σ H (.list ds)) : EI K (iList K te) σ H ExtN ds := fun R k =>
  h H (Ex.refl _) _ fun v H2 e2 p => by
    obtain ⟨pa, xs, rfl, h1, h2⟩ := dp_lst p
    exact ⟨pa, rfl, ⟨xs, h1⟩, k _ H2 e2 (walk_lstD (fun H' g => ⟨h1.imp (fun r => (ExtN.kl g).l _ _ r) id, dpa_kn h2 g⟩) h2.length)⟩
theorem JarAt.kn {j : Addr} (h : JarAt H j) (e : ExtN H H') : JarAt H' j := let ⟨a, b, h, h1⟩ := h; ⟨a, b, e _ _ h (fun _ z => nomatch z), h1⟩
end
theorem told_ok (x : Str) (hx : PyData.canLay0 (.str x) = true) {y : PyData} (hy : tupled y = true) (hd : y.depth ≤ 10) : SeqAt.shaped (.tuple [.str x, y]) = true ∧ PyData.eqv (.tuple [.str x, y]) (.tuple [.str x, y]) = true := by
  have h : tupled (.tuple [.str x, y]) = true := tupled_tup fun d hd => by
    rcases List.mem_cons.mp hd with rfl | hd
    · exact hx
    · rw [List.mem_singleton.mp hd]; exact hy
  refine ⟨shaped_of h ?_, (eqv_tupled _ _ h h).mpr rfl⟩
  have := depth_tup (n := 10) (ds := [.str x, y]) fun d hd' => by
    rcases List.mem_cons.mp hd' with rfl | hd'
    · simp [PyData.depth]
    · rw [List.mem_singleton.mp hd']; exact hd
  omega
/-- all but the jar and the code tables is kept -/
def JN (j : Addr) (H H' : Hp) : Prop := ∀ b o, b ≠ j → H b = some o → (∀ ps, o ≠ .tbl ps) → H' b = some o
theorem JN.of_ext {j : Addr} {H H' : Hp} (e : ExtN H H') : JN j H H' := fun b o _ h n => e b o h n
theorem JN.of_jx {j : Addr} {H H' : Hp} (e : Jx j H H') : JN j H H' := fun b o n h _ => e b o n h
theorem JN.trans {j : Addr} {H H1 H2 : Hp} (a : JN j H H1) (b : JN j H1 H2) : JN j H H2 := fun c o n h t => b c o n (a c o n h t) t
theorem tabs_jx {TL : List (Addr × Str)} {j : Addr} {H H' : Hp} (T : Tabs TL H) (jx : Jx j H H') (hj : JarAt H j) : Tabs TL H' := fun p hp => by
  obtain ⟨ps, h1, h2, h3⟩ := T p hp
  have ne : ∀ (a : Addr) (o : HO), H a = some o → (∀ xs, o ≠ .lst xs) → a ≠ j := fun a o h n z => by
    obtain ⟨x, y, hj, _⟩ := hj
    rw [z, hj] at h
    cases h; exact n _ rfl
  refine ⟨ps, jx _ _ (ne _ _ h1 fun _ z => nomatch z) h1, h2, fun pos cv hc => ?_⟩
  obtain ⟨c, e1, e2⟩ := h3 pos cv hc
  exact ⟨c, e1, jx _ _ (ne _ _ e2 fun _ z => by unfold CodeO at z; cases z) e2⟩
section
variable {P : Program} {w : World} {K : PySem.W.Frag} {mg : Str → Option Value} {base : Heap}
def BentSp (K : PySem.W.Frag) (TL : List (Addr × Str)) : Sp := fun vs H Q _ => ∃ (j : Addr) (v0 v1 v2 : V) (B : List (List Int)) (R : List (List (List Int))), vs = [.ref j, v0, v1, v2] ∧ JarAt H j ∧ BkN H v0 B ∧ Dp K H v1 (dataD R) ∧ Dp K H v2 (lotsD (dueL B R)) ∧ Tabs TL H ∧ DataG B R ∧
  ∀ H', JN j H H' → Tabs TL H' → JarAt H' j → Q (.bl true) H'
theorem sc__law_bent_right : FnScope ["_law_jar", "_law_book", "_law_data_here", "_law_due", "_law_some", "_law_thing", "_law_i", "_law_odd", "_law_bent"] ["_law_jar", "_law_book", "_law_data_here", "_law_due"] (defScope st__law_bent_right) := ⟨rfl, rfl, rfl, by decide +kernel, rfl, by decide +kernel, by decide +kernel⟩
theorem ok__law_bent_right (T : Txt K mg) (Y : TabT K mg base T) (Z : ErrT P K mg) : FnG P w K mg base 13 T.d__law_bent_right.f T.d__law_bent_right.fd ["_law_jar", "_law_book", "_law_data_here", "_law_due"] (BentSp K Y.TL) := by
  obtain ⟨oc, od, kV, doc, pm, an, ct, osl, e1, lk, hcd⟩ := Y.FB.ex
  obtain ⟨ocH, odH, kVH, docH, pmH, anH, cdvH, ctH, oslH, hfd, lkH, hcH⟩ := T.d__law_heard.F.ex
  have bH := T.d__law_heard.b
  rw [hfd] at lkH bH
  refine FnG.of (x := "_law_bent_right") (qual := "_law_bent_right") sc__law_bent_right (.ref Y.cB) ⟨oc, od, kV, doc, pm, an, ct, osl, e1, lk, hcd⟩ ?len (fun A outer s H vs Q E hgd hr h => ?_)
  case len =>
    rintro vs H Q E ⟨j, v0, v1, v2, B, R, rfl, _⟩
    rfl
  obtain ⟨j, v0, v1, v2, B, R, rfl, hj, hB, p1, p2, hT, hD, k⟩ := h
  refine ⟨_, (pss_cons (ps_set (i := 4) sc__law_bent_right.nd rfl (by first | exact Or.inl rfl | exact Or.inr rfl) (pe_lst (pa_cons (pe_op (catK (K := K)) (pv 3) (pe_slice (slTK (K := K)) (pv 3) po_none (po_some pe_int))) (pa_cons (pe_slice (slTK (K := K)) (pv 3) (po_some pe_int) po_none) (pa_cons pe_non (pa_cons (revTK (K := K) (pv 3)) (pa_cons (pe_op (catK (K := K)) (pv 3) (pe_tup (pa_cons (pe_op (repAK (K := K)) (pe_tup (pa_cons pe_non pa_nil)) (pe_callB (lenK (K := K)) (by rfl) T.b_len (by decide +kernel) (pa_cons (pv 1) pa_nil))) pa_nil))) (pa_cons pe_str pa_nil))))))))
      (pss_cons (ps_for PassesOwn.never rfl (piLK (K := K) (pv 4)) (pg_name (i := 5) sc__law_bent_right.nd rfl (by first | exact Or.inl rfl | exact Or.inr rfl))
      (pss_one (ps_if (pt_cmpR op_ne (pe_callB (rprK hgd hr) (by rfl) T.b_repr (by decide +kernel) (pa_cons (pe_call (ok_is_whole (P := P) (w := w) T Y) (hr.mono (by decide)) (by rfl) T.d_is_whole.g T.d_is_whole.F.kp T.d_is_whole.b .nil pass0 (pa_cons (pv 1) (pa_cons (pv 2) (pa_cons (pv 5) pa_nil)))) pa_nil)) (pe_callB (rprK hgd hr) (by rfl) T.b_repr (by decide +kernel) (pa_cons (pe_cmpR (eqDK (K := K) hr) (pv 5) (pv 3) (nomark _)) pa_nil)) (nomark _))
        (pss_one (ps_ret pe_bl))
        pss_nil)))
      (pss_cons (ps_set (i := 6) sc__law_bent_right.nd rfl (by first | exact Or.inl rfl | exact Or.inr rfl) (pe_call (ok__law_take (P := P) (w := w) T) (hr.mono (by decide)) (by rfl) T.d__law_take.g T.d__law_take.F.kp T.d__law_take.b .nil pass0 (pa_cons (pv 0) (pa_cons (pe_callB (lenK (K := K)) (by rfl) T.b_len (by decide +kernel) (pa_cons (pv 1) pa_nil)) pa_nil))))
      (pss_cons (ps_set (i := 7) sc__law_bent_right.nd rfl (by first | exact Or.inl rfl | exact Or.inr rfl) (pe_call (ok__law_one (P := P) (w := w) T) (hr.mono (by decide)) (by rfl) T.d__law_one.g T.d__law_one.F.kp T.d__law_one.b .nil pass0 (pa_cons (pv 0) (pa_cons (pe_lst (pa_cons pe_non (pa_cons (pe_op (repAK (K := K)) (pe_tup (pa_cons pe_int pa_nil)) (pe_op op_add (pe_callB (lenK (K := K)) (by rfl) T.b_len (by decide +kernel) (pa_cons (pe_ix (ixTK (K := K)) (pv 1) (pv 6) (fun _ _ => rfl)) pa_nil)) pe_int)) (pa_cons (pe_op (repAK (K := K)) (pe_tup (pa_cons (pe_un un_neg pe_int) pa_nil)) (pe_callB (lenK (K := K)) (by rfl) T.b_len (by decide +kernel) (pa_cons (pe_ix (ixTK (K := K)) (pv 1) (pv 6) (fun _ _ => rfl)) pa_nil))) (pa_cons (pe_op (repAK (K := K)) (pe_tup (pa_cons (pe_op op_pow pe_int pe_int) pa_nil)) (pe_callB (lenK (K := K)) (by rfl) T.b_len (by decide +kernel) (pa_cons (pe_ix (ixTK (K := K)) (pv 1) (pv 6) (fun _ _ => rfl)) pa_nil))) (pa_cons pe_str pa_nil)))))) pa_nil))))
      (pss_cons (ps_set (i := 8) sc__law_bent_right.nd rfl (by first | exact Or.inl rfl | exact Or.inr rfl) (pe_op (catK (K := K)) (pe_op (catK (K := K)) (pe_slice (slTK (K := K)) (pv 2) po_none (po_some (pv 6))) (pe_tup (pa_cons (pe_op (catK (K := K)) (pe_ix (ixTK (K := K)) (pv 2) (pv 6) (fun _ _ => rfl)) (pe_tup (pa_cons (pv 7) pa_nil))) pa_nil))) (pe_slice (slTK (K := K)) (pv 2) (po_some (pe_op op_add (pv 6) pe_int)) po_none)))
      (pss_cons (ps_if (PW.pt (pw_or (pt_cmpR (neDK (K := K) hr) (pe_lamcall (k := 10) (T := Y.TL) (Ng := nsHeard) (by rfl) T.d__law_heard.g T.d__law_heard.F.kp lkH hcH bH sc__law_heard rfl (Or.inl rfl) (heard_gives Z) Y.TBB rfl (by simp [TabT.TL]; exact .inr rfl) Y.onlyB (hr.mono (by decide)) (lamS_by (sc := defScope st__law_bent_right) (by decide +kernel)) rfl (fun _ _ _ _ _ => rfl) (fun A outer s H E f c' hr => (pe_call (okX_whole (w := w) T Z) (hr.mono (by decide)) (by rfl) T.d_whole.g T.d_whole.F.kp T.d_whole.b .nil (passes_call (takes_of rfl rfl rfl rfl) fun _ _ _ _ h => h) (pa_cons (pv 1) (pa_cons (pv 8) pa_nil))))) (pe_tup (pa_cons pe_str (pa_cons (pe_tup (pa_cons (pv 6) (pa_cons (pe_callB (lenK (K := K)) (by rfl) T.b_len (by decide +kernel) (pa_cons (pe_ix (ixTK (K := K)) (pv 2) (pv 6) (fun _ _ => rfl)) pa_nil)) pa_nil))) pa_nil))) (nomark _)) (pw_or1 (pt_cmpR op_notBl (pe_call (ok_is_whole (P := P) (w := w) T Y) (hr.mono (by decide)) (by rfl) T.d_is_whole.g T.d_is_whole.F.kp T.d_is_whole.b .nil pass0 (pa_cons (pv 1) (pa_cons (pv 8) (pa_cons (pv 3) pa_nil)))) pe_bl (nomark _)))))
      (pss_one (ps_ret pe_bl))
      pss_nil)
      (pss_cons (ps_set (i := 8) sc__law_bent_right.nd rfl (by first | exact Or.inl rfl | exact Or.inr rfl) (pe_op (catK (K := K)) (pe_op (catK (K := K)) (pe_slice (slTK (K := K)) (pv 2) po_none (po_some (pv 6))) (pe_tup (pa_cons pe_non pa_nil))) (pe_slice (slTK (K := K)) (pv 2) (po_some (pe_op op_add (pv 6) pe_int)) po_none)))
      (pss_cons (ps_if (pt_cmpR (neDK (K := K) hr) (pe_lamcall (k := 10) (T := Y.TL) (Ng := nsHeard) (by rfl) T.d__law_heard.g T.d__law_heard.F.kp lkH hcH bH sc__law_heard rfl (Or.inl rfl) (heard_gives Z) Y.TBB rfl (by simp [TabT.TL]; exact .inr rfl) Y.onlyB (hr.mono (by decide)) (lamS_by (sc := defScope st__law_bent_right) (by decide +kernel)) rfl (fun _ _ _ _ _ => rfl) (fun A outer s H E f c' hr => (pe_call (okX_whole (w := w) T Z) (hr.mono (by decide)) (by rfl) T.d_whole.g T.d_whole.F.kp T.d_whole.b .nil (passes_call (takes_of rfl rfl rfl rfl) fun _ _ _ _ h => h) (pa_cons (pv 1) (pa_cons (pv 8) pa_nil))))) (pe_tup (pa_cons pe_str (pa_cons (pe_tup (pa_cons (pv 6) (pa_cons (pe_un un_neg pe_int) pa_nil))) pa_nil))) (nomark _))
      (pss_one (ps_ret pe_bl))
      pss_nil)
      (pss_cons (ps_if (pt_cmpR (neDK (K := K) hr) (pe_lamcall (k := 10) (T := Y.TL) (Ng := nsHeard) (by rfl) T.d__law_heard.g T.d__law_heard.F.kp lkH hcH bH sc__law_heard rfl (Or.inl rfl) (heard_gives Z) Y.TBB rfl (by simp [TabT.TL]; exact .inr rfl) Y.onlyB (hr.mono (by decide)) (lamS_by (sc := defScope st__law_bent_right) (by decide +kernel)) rfl (fun _ _ _ _ _ => rfl) (fun A outer s H E f c' hr => (pe_call (okX_whole (w := w) T Z) (hr.mono (by decide)) (by rfl) T.d_whole.g T.d_whole.F.kp T.d_whole.b .nil (passes_call (takes_of rfl rfl rfl rfl) fun _ _ _ _ h => h) (pa_cons (pv 1) (pa_cons (pe_op (catK (K := K)) (pv 2) (pe_tup (pa_cons (pe_tup pa_nil) pa_nil))) pa_nil))))) (pe_tup (pa_cons pe_str (pa_cons (pe_un un_neg pe_int) pa_nil))) (nomark _))
      (pss_one (ps_ret pe_bl))
      pss_nil)
      (pss_one (ps_ret (pe_cmpR (eqDK (K := K) hr) (pe_lamcall (k := 10) (T := Y.TL) (Ng := nsHeard) (by rfl) T.d__law_heard.g T.d__law_heard.F.kp lkH hcH bH sc__law_heard rfl (Or.inl rfl) (heard_gives Z) Y.TBB rfl (by simp [TabT.TL]; exact .inr rfl) Y.onlyB (hr.mono (by decide)) (lamS_by (sc := defScope st__law_bent_right) (by decide +kernel)) rfl (fun _ _ _ _ _ => rfl) (fun A outer s H E f c' hr => (pe_call (okX_whole (w := w) T Z) (hr.mono (by decide)) (by rfl) T.d_whole.g T.d_whole.F.kp T.d_whole.b .nil (passes_call (takes_of rfl rfl rfl rfl) fun _ _ _ _ h => h) (pa_cons (pe_op (catK (K := K)) (pv 1) (pe_tup (pa_cons (pe_tup pa_nil) pa_nil))) (pa_cons pe_non pa_nil))))) (pe_tup (pa_cons pe_str (pa_cons (pe_callB (lenK (K := K)) (by rfl) T.b_len (by decide +kernel) (pa_cons (pv 1) pa_nil)) pa_nil))) (nomark _))))))))))))), ?_⟩
  have hG := dueL_due hD
  have hsm := hD.small
  have hb1 := hD.book.1
  generalize dueL B R = G at hG p2
  have hGt : ∀ t ∈ G, t.length = B.length ∧ InR R t := fun t ht => by
    obtain ⟨h1, h2⟩ := (hG.lots.2 t).mp ht
    exact ⟨h1, ((isLt_iff h1).mp h2.lot).1⟩
  have hGl : G.length ≤ 256 := lots_few hD hG.lots.1 fun t ht => (hG.lots.2 t).mp ht
  have q2 : ∀ {H' : Hp}, Dp K H' v2 (lotsD G) → Dp K H' v2 (.tuple (G.map tagsD)) := fun h => h
  have elen : ∀ {σ : L2.St} {H' : Hp} {i : Nat}, σ[i]? = some (some v0) → BkN H' v0 B → ED K (tCB (rLen K) (tCons (tVar i) tNil)) σ H' (.int (B.length : Int)) := fun hs hb => ed_lenT (xs := B) (enc := schD) (ed_var hs hb.dp)
  refine q_asgD (K := K) (d := .list (thingsD B G)) (ed_lst (eds_cons ((ed_op (ed_var rfl (q2 p2)) (ed_slTo (i := 1) (ed_var rfl (q2 p2)) ed_int) (rd_catA (by rw [List.length_take, List.length_map]; omega))).is ?a1) (eds_cons ((ed_slFrom (i := 1) (ed_var rfl (q2 p2)) ed_int).is ?a2) (eds_cons ed_non (eds_cons ((ed_rev (ed_var rfl (q2 p2))).is ?a3)
    (eds_cons ((ed_op (ed_var rfl (q2 p2)) (ed_tup (eds_cons (ed_op (ed_tup (eds_cons ed_non eds_nil) (by show 1 ≤ 100000; omega)) (elen rfl hB) (rd_rep (by omega) (by omega))) eds_nil) (by show 1 ≤ 100000; omega)) (rd_catA (by rw [List.length_map]; show _ + 1 ≤ 100000; omega))).is ?a4) (eds_cons ed_str eds_nil)))))) (by show 6 ≤ 100000; omega)) (fun vs H1 e1 ps => ?_)
  case a1 => unfold lotsD; rw [List.map_append, List.map_take]
  case a2 => unfold lotsD; rw [List.map_drop]
  case a3 => unfold lotsD; rw [List.map_reverse]
  case a4 => unfold lotsD tagsD; rw [List.map_append, List.map_singleton, List.map_replicate]; rfl
  have T1 := hT.ext e1
  refine q_forD (K := K) (GG := ExtN) (ei_lstN (ed_var rfl ps)) (fun H3 i σ' H' => ExtN H1 H' ∧ ExtN H3 H' ∧ Tabs Y.TL H' ∧ ∃ o5 : Option V, σ' = [some (.ref j), some v0, some v1, some v2, some vs, o5, none, none, none]) (fun H3 e3 => ⟨ExtN.of e3, ExtN.refl _, T1.ext e3, none, rfl⟩) (fun _ _ _ _ _ h => h.2.1) ?_ ?_
  · rintro H3 i d x σ' H4 H5 e3 hd ⟨e14, e34, T4, o5, rfl⟩ e45 px
    have e15 := ExtN.trans e14 (ExtN.of e45)
    have e05 := ExtN.trans (ExtN.of e1) e15
    have hB5 := hB.kn e05
    have p15 := dp_kn p1 e05
    have p25 := dp_kn p2 e05
    obtain ⟨th1, th2, th3⟩ := things_ok (R := R) (G := G) (by omega) hGt (List.mem_of_getElem? hd)
    refine sn_skip (TL := Y.TL) (T4.ext e45) (EvTn.is (etn_test (edn_op (edn_cb1 (edn_call (fun H2 e2 => eb_var rfl (hB5.kn e2)) (fun H2 e2 => eds_cons (ed_var rfl (dp_kn p15 e2)) (eds_cons (ed_var rfl (dp_kn px e2)) eds_nil)) ⟨d, .inl ⟨R, G, rfl, hD, hG, th1, rfl⟩⟩) rcd_reprB)
      (fun H2 e2 => ed_cb (eds_cons (ed_op (ed_var rfl (dp_kn px e2)) (ed_var rfl (dp_kn p25 e2)) (rd_eqD (shaped_of th2 th3) (shaped_lots G))) eds_nil) rcd_reprB) rd_neS)) ?_) (fun H6 e6 T6 => ⟨ExtN.trans e15 e6, ExtN.trans e34 (ExtN.trans (ExtN.of e45) e6), T6, _, rfl⟩)
    rw [eqv_swap th2 (tupled_lots G)]; simp
  rintro H3 σ' H4 e3 ⟨e14, e34, T4, o5, rfl⟩
  have e04 := ExtN.trans (ExtN.of e1) e14
  have hB4 := hB.kn e04
  have p14 := dp_kn p1 e04
  have p24 := dp_kn p2 e04
  have ja4 := hj.kn e04
  refine q_asgR (ej_take (K := K) (top := B.length) rfl ja4 (eds_cons (elen rfl hB4) eds_nil) hb1 (by omega) fun i H5 hi jx5 ja5 => ?_)
  have f5 := jx5.fk ja4
  have hB5 := hB4.fk f5
  have p15 := dp_tk f5.1 _ _ (stay_tupled _ (tupled_data R)) p14
  have p25 := dp_tk f5.1 _ _ (stay_tupled _ (tupled_lots G)) p24
  have T5 := tabs_jx T4 jx5 ja4
  have gB : (B.map schD)[i]? = some (schD (B.getD i [])) := by rw [List.getElem?_map, getD_of (d := []) hi]; rfl
  have hsB := hD.book.2.2 _ (getD_mem hi)
  have hs8 := schB_len hsB
  have hs1 : 1 ≤ (B.getD i []).length := by
    unfold schB at hsB
    simp only [Bool.and_eq_true, decide_eq_true_eq] at hsB
    omega
  have slen : ∀ {σ : L2.St} {H' : Hp}, σ[1]? = some (some v0) → σ[6]? = some (some (.int (i : Int))) → BkN H' v0 B → ED K (tCB (rLen K) (tCons (tOp (rIxT K) (tVar 1) (tVar 6)) tNil)) σ H' (.int ((B.getD i []).length : Int)) := fun h1 h6 hb => ed_lenT (xs := B.getD i []) (enc := PyData.int) (ed_op (ed_var h1 hb.dp) (ed_var h6 (.int _)) (rd_ixT gB))
  have one : ∀ {n : Nat}, 1 ≤ 100000 := fun {n} => by omega
  refine q_asgR ⟨_, rfl, el_lst (K := K) (ds := oddD (B.getD i [])) (eds_cons ed_non (eds_cons (ed_op (ed_tup (eds_cons ed_int eds_nil) (by show 1 ≤ 100000; omega)) ((ed_op (slen rfl rfl hB5) ed_int rd_add).is (b := .int (((B.getD i []).length + 1 : Nat) : Int)) (congrArg PyData.int (by omega))) (rd_rep (by omega) (by omega)))
    (eds_cons (ed_op (ed_tup (eds_cons (ed_neg ed_int) eds_nil) (by show 1 ≤ 100000; omega)) (slen rfl rfl hB5) (rd_rep hs1 (by omega))) (eds_cons (ed_op (ed_tup (eds_cons ((ed_op ed_int ed_int (rd_pow ⟨by decide, by decide, by decide⟩)).is (b := .int 1000000) rfl) eds_nil) (by show 1 ≤ 100000; omega)) (slen rfl rfl hB5) (rd_rep hs1 (by omega))) (eds_cons ed_str eds_nil))))) (by show 5 ≤ 100000; omega) H5 (Ex.refl _) _ fun p xs H6 hp e6 h6 d6 => ?_⟩
  have ja6 := ja5.ex e6
  have hxl : xs.length = 5 := d6.length
  refine ⟨j, p, xs, rfl, ja6, .inl (sq_of h6), ja5.ne hp, by omega, by omega, fun dd y H7 hy jx7 ja7 => ?_⟩
  obtain ⟨od, hod, py⟩ := d6.get hy
  obtain ⟨hrt, hnr⟩ := odd_ok hs1 hs8 (List.mem_of_getElem? hod)
  have f7 := (FK.of_ex e6).trans (jx7.fk ja6)
  have hB7 := hB5.fk f7
  have p17 := dp_tk f7.1 _ _ (stay_tupled _ (tupled_data R)) p15
  have p27 := dp_tk f7.1 _ _ (stay_tupled _ (tupled_lots G)) p25
  have py7 := dp_tk (jx7.fk ja6).1 _ _ (stay_tupled _ hrt.tupled) py
  have T7 := tabs_jx (T5.ext e6) jx7 ja6
  have hiR : i < R.length := by rw [hD.len]; exact hi
  have gR : (R.map rowsD)[i]? = some (.tuple ((R.getD i []).map schD)) := by rw [List.getElem?_map, getD_of (d := []) hiR]; rfl
  have hfew := hD.few _ (List.mem_of_getElem? (getD_of (d := []) hiR))
  have hRl := hD.len
  obtain ⟨or1, or2⟩ := odd_row hD hi hrt hnr
  have qd : ∀ {H' : Hp}, Dp K H' v1 (dataD R) → Dp K H' v1 (.tuple (R.map rowsD)) := fun h => h
  have ecut : ∀ {σ : L2.St} {H' : Hp} {te : TE} {z : PyData}, σ[2]? = some (some v1) → σ[6]? = some (some (.int (i : Int))) → Dp K H' v1 (dataD R) → ED K te σ H' z → ED K (tOp (rCatA K) (tOp (rCatA K) (tSl (rSlA K) (tVar 2) tNoPart (tPart (tVar 6))) (tTup (tCons te tNil))) (tSl (rSlA K) (tVar 2) (tPart (tOp (rI0 fun i j => .int (i + j)) (tVar 6) (tC (.int 1)))) tNoPart)) σ H' (.tuple (putAt (R.map rowsD) i z)) := fun h2 h6 hp hz =>
    ed_op (ed_op (ed_slTo (ed_var h2 (qd hp)) (ed_var h6 (.int _))) (ed_tup (eds_cons hz eds_nil) (by show 1 ≤ 100000; omega)) (rd_catA (by rw [List.length_take, List.length_map]; show _ + 1 ≤ 100000; omega))) (ed_slFrom (i := i + 1) (ed_var h2 (qd hp)) ((ed_op (ed_var h6 (.int _)) ed_int rd_add).is (congrArg PyData.int (by omega)))) (rd_catA (by rw [List.length_append, List.length_take, List.length_drop, List.length_map]; show _ + 1 + _ ≤ 100000; omega))
  refine q_asgD (K := K) (ecut rfl rfl p17 (ed_op (ed_op (ed_var rfl (qd p17)) (ed_var rfl (.int _)) (rd_ixT gR)) (ed_tup (eds_cons (ed_var rfl py7) eds_nil) (by show 1 ≤ 100000; omega)) (rd_catA (by rw [List.length_map]; show _ + 1 ≤ 100000; omega)))) (fun vb H8 e8 pb => ?_)
  have hB8 := hB7.ex e8
  have p18 := p17.ex e8
  have p28 := p27.ex e8
  have T8 := T7.ext e8
  have tl2 : ∀ a b : Int, tupled (.tuple [.int a, .int b]) = true := fun a b => by simp [tupled, tupledAll]
  have dp2 : ∀ a b : Int, (PyData.tuple [.int a, .int b]).depth ≤ 10 := fun a b => by
    have := depth_ints [a, b]
    show (PyData.tuple ([a, b].map PyData.int)).depth ≤ 10
    omega
  have klay : PyData.canLay0 (.str (PySem.Str.ofString "data")) = true := by decide +kernel
  have blay : PyData.canLay0 (.str (PySem.Str.ofString "book")) = true := by decide +kernel
  refine qn_skip (TL := Y.TL) T8 (etn_or (x := false) (y := false) (EvTn.is (etn_test (edn_op (edn_heardD (fun H2 e2 => eds_cons (ed_var rfl (hB8.kn e2).dp) (eds_cons (ed_var rfl (dp_kn pb e2)) eds_nil)) hD.book (bent_bad hD hi or1 or2))
    (fun H2 e2 => ed_tup (eds_cons ed_str (eds_cons (ed_tup (eds_cons (ed_var rfl (.int _)) (eds_cons (ed_lenT (xs := R.getD i []) (enc := schD) (ed_op (ed_var rfl (qd (dp_kn p18 e2))) (ed_var rfl (.int _)) (rd_ixT gR))) eds_nil)) (by show 2 ≤ 100000; omega)) eds_nil)) (by show 2 ≤ 100000; omega)) (rd_neD (told_ok _ klay (tl2 _ _) (dp2 _ _)).1 (told_ok _ klay (tl2 _ _) (dp2 _ _)).1))) (by rw [(told_ok _ klay (tl2 _ _) (dp2 _ _)).2]; rfl))
    fun _ => etn_test ((edn_op (edn_call (fun H2 e2 => eb_var rfl (hB8.kn e2)) (fun H2 e2 => eds_cons (ed_var rfl (dp_kn pb e2)) (eds_cons (ed_var rfl (dp_kn p28 e2)) eds_nil)) ⟨lotsD G, .inr ⟨_, rfl, hD.book, bent_data hD hi or1, bent_not hD hi or2, rfl⟩⟩) (fun H2 e2 => ed_bl) rd_notB).is (by rfl))) fun H9 e9 T9 => ?_
  have hB9 := hB8.kn e9
  have p19 := dp_kn p18 e9
  refine q_asgD (K := K) (ecut rfl rfl p19 ed_non) (fun vc H10 e10 pc => ?_)
  have hB10 := hB9.ex e10
  have p110 := p19.ex e10
  have T10 := T9.ext e10
  obtain ⟨nb1, nb2⟩ := none_bad (B.getD i [])
  refine qn_skip (TL := Y.TL) T10 (EvTn.is (etn_test (edn_op (edn_heardD (fun H2 e2 => eds_cons (ed_var rfl (hB10.kn e2).dp) (eds_cons (ed_var rfl (dp_kn pc e2)) eds_nil)) hD.book (bent_bad hD hi nb1 nb2))
    (fun H2 e2 => ed_tup (eds_cons ed_str (eds_cons (ed_tup (eds_cons (ed_var rfl (.int _)) (eds_cons (ed_neg ed_int) eds_nil)) (by show 2 ≤ 100000; omega)) eds_nil)) (by show 2 ≤ 100000; omega)) (rd_neD (told_ok _ klay (tl2 _ _) (dp2 _ _)).1 (told_ok _ klay (tl2 _ _) (dp2 _ _)).1))) (by rw [(told_ok _ klay (tl2 _ _) (dp2 _ _)).2]; rfl)) fun H11 e11 T11 => ?_
  have hB11 := hB10.kn e11
  have p111 := dp_kn p110 e11
  refine qn_skip (TL := Y.TL) T11 (EvTn.is (etn_test (edn_op (edn_heardD (ys := R.map rowsD ++ [.tuple []]) (fun H2 e2 => eds_cons (ed_var rfl (hB11.kn e2).dp) (eds_cons (ed_op (ed_var rfl (qd (dp_kn p111 e2))) (ed_tup (eds_cons (ed_tup eds_nil (by show 0 ≤ 100000; omega)) eds_nil) (by show 1 ≤ 100000; omega)) (rd_catA (by rw [List.length_map]; show _ + 1 ≤ 100000; omega))) eds_nil)) hD.book (more_bad hD))
    (fun H2 e2 => ed_tup (eds_cons ed_str (eds_cons (ed_neg ed_int) eds_nil)) (by show 2 ≤ 100000; omega)) (rd_neD (told_ok _ klay rfl (by simp [PyData.depth])).1 (told_ok _ klay rfl (by simp [PyData.depth])).1))) (by rw [(told_ok _ klay (y := .int (-1)) rfl (by simp [PyData.depth])).2]; rfl)) fun H12 e12 T12 => ?_
  have hB12 := hB11.kn e12
  refine sn_ret (TL := Y.TL) T12 ((edn_op (edn_heardB (B := B ++ [[]]) (d := .none) (fun H2 e2 => eds_cons ((ed_op (ed_var rfl (hB12.kn e2).dp) (ed_tup (eds_cons (ed_tup eds_nil (by show 0 ≤ 100000; omega)) eds_nil) (by show 1 ≤ 100000; omega)) (rd_catA (by rw [List.length_map]; show _ + 1 ≤ 100000; omega))).is ?bk) (eds_cons ed_non eds_nil)) (book_bad hD.book hsm))
    (fun H2 e2 => ed_tup (eds_cons ed_str (eds_cons (elen rfl (hB12.kn e2)) eds_nil)) (by show 2 ≤ 100000; omega)) (rd_eqD (told_ok _ blay rfl (by simp [PyData.depth])).1 (told_ok _ blay rfl (by simp [PyData.depth])).1)).is (d' := .bool true) (by rw [(told_ok _ blay (y := .int (B.length : Int)) rfl (by simp [PyData.depth])).2])) (fun v H13 e13 T13 pv => ?_)
  case bk => unfold bookD; rw [List.map_append]; rfl
  cases dp_bl pv
  have e813 : ExtN H7 H13 := ExtN.trans (ExtN.of e8) (ExtN.trans e9 (ExtN.trans (ExtN.of e10) (ExtN.trans e11 (ExtN.trans e12 e13))))
  exact k H13 (((JN.of_ext e04).trans (JN.of_jx jx5)).trans ((JN.of_jx (Jx.of e6)).trans ((JN.of_jx jx7).trans (JN.of_ext e813)))) T13 (ja7.kn e813)
end
end BB
/-! L24: the law. -/
namespace BB
open PySem L2 Evl LamX NdefX
section
variable {P : Program} {w : World} {K : PySem.W.Frag} {mg : Str → Option Value} {base : Heap}
theorem book_draw {σ : L2.St} {H : Hp} {p : Addr} {Q : VK} {E : XK} (hs : σ[1]? = some (some (.ref p))) (hj : JarAt H p) (k : BookK p H Q) :
    tIf (tTest (tOp rEq (tCall TakeSp [] E (tCons (tVar 1) (tCons (tC (.int 3)) tNil))) (tC (.int 0)))) (tCall BkWSp [] E (tCons (tVar 1) (tCons (tC (.int 4)) (tCons (tC (.int 6)) tNil)))) (tCall Bk4Sp [] E (tCons (tVar 1) (tCons (tC (.int 4)) tNil))) σ H Q := by
  refine ej_test0 (K := []) (top := 3) hs hj (eds_cons ed_int eds_nil) (by omega) (by omega) fun b H1 jx ja => ?_
  cases b with
  | true =>
    rw [if_pos rfl]
    exact ⟨_, hs, p, 4, 6, rfl, ja, by omega, by omega, by omega, by omega, k.jx jx⟩
  | false =>
    rw [if_neg Bool.false_ne_true]
    exact ⟨_, hs, p, rfl, ja, k.jx jx⟩
/-- one table emptied -/
theorem less_data {B : List (List Int)} {R : List (List (List Int))} (hD : DataG B R) {i : Nat} (hi : i < B.length) : putAt (R.map rowsD) i (.tuple []) = (R.take i ++ [[]] ++ R.drop (i + 1)).map rowsD ∧ DataG B (R.take i ++ [[]] ++ R.drop (i + 1)) := by
  have hl := hD.len
  have mem : ∀ rs ∈ R.take i ++ [[]] ++ R.drop (i + 1), rs = [] ∨ rs ∈ R := fun rs h => by
    rcases List.mem_append.mp h with h | h
    · rcases List.mem_append.mp h with h | h
      · exact .inr (List.mem_of_mem_take h)
      · exact .inl (List.mem_singleton.mp h)
    · exact .inr (List.mem_of_mem_drop h)
  refine ⟨by unfold putAt; rw [List.map_append, List.map_append, List.map_take, List.map_drop]; rfl, hD.book, hD.small, by rw [List.length_append, List.length_append, List.length_take, List.length_drop, List.length_singleton]; omega, fun m rs hm r hr => ?_, fun rs h => ?_, fun rs h => ?_⟩
  · have h1 : (R.take i).length = i := by rw [List.length_take]; omega
    by_cases h : m < i
    · rw [List.append_assoc, List.getElem?_append_left (by omega), List.getElem?_take_of_lt h] at hm
      exact hD.row m rs hm r hr
    · rw [List.append_assoc, List.getElem?_append_right (by omega), h1] at hm
      cases hk : m - i with
      | zero =>
        rw [hk] at hm
        have hm : some [] = some rs := hm
        cases hm
        cases hr
      | succ k =>
        rw [hk] at hm
        have hm : (R.drop (i + 1))[k]? = some rs := hm
        rw [List.getElem?_drop] at hm
        have e : i + 1 + k = m := by omega
        rw [e] at hm
        exact hD.row m rs hm r hr
  · rcases mem rs h with rfl | h
    · exact List.nodup_nil
    · exact hD.nodup rs h
  · rcases mem rs h with rfl | h
    · exact Nat.zero_le _
    · exact hD.few rs h
/-- no rows at all -/
theorem nil_data {B : List (List Int)} (hB : bookB B) (h4 : B.length ≤ 4) : DataG B (List.replicate B.length []) ∧ Due B (List.replicate B.length []) [] := by
  have hD : DataG B (List.replicate B.length []) := ⟨hB, h4, List.length_replicate, fun m rs hm r hr => (by
    rw [(List.mem_replicate.mp (List.mem_of_getElem? hm)).2] at hr
    cases hr), fun rs h => (by rw [(List.mem_replicate.mp h).2]; exact List.nodup_nil), fun rs h => (by rw [(List.mem_replicate.mp h).2]; exact Nat.zero_le _)⟩
  refine ⟨hD, ?_⟩
  have hG := dueL_due hD
  have e : dueL B (List.replicate B.length []) = [] := by
    cases q : dueL B (List.replicate B.length []) with
    | nil => rfl
    | cons t G =>
      have ht : t ∈ dueL B (List.replicate B.length []) := by rw [q]; exact List.mem_cons_self
      obtain ⟨x, hx, hs⟩ := List.any_eq_true.mp (hG.some ht)
      obtain ⟨h1, h2⟩ := (hG.lots.2 t).mp ht
      have hin := ((isLt_iff h1).mp h2.lot).1
      obtain ⟨m, hm⟩ := List.getElem?_of_mem hx
      cases x with
      | none => cases hs
      | some k =>
        have := hin m k hm
        have e0 : (List.replicate B.length ([] : List (List Int))).getD m [] = [] := by
          rw [List.getD_eq_getElem?_getD, List.getElem?_replicate]
          split <;> rfl
        rw [e0] at this
        exact absurd this (Nat.not_lt_zero k)
  rw [e] at hG
  exact hG
theorem sc_law : FnScope ["_law_script", "_law_source", "_law_second", "_law_book", "_law_data_here", "_law_due", "_law_i", "_law_less"] ["_law_script"] (defScope st_law) := ⟨rfl, rfl, rfl, by decide +kernel, rfl, by decide +kernel, by decide +kernel⟩
def LawSp (K : PySem.W.Frag) (TL : List (Addr × Str)) : Sp := fun vs H Q _ => ∃ (a : Addr) (ns : List Int), vs = [.ref a] ∧ SqL K H a (ns.map V.int) ∧ ns.length ≤ 1000 ∧ Tabs TL H ∧ ∀ H', Q (.bl true) H'
theorem ok_law (T : Txt K mg) (Y : TabT K mg base T) (Z : ErrT P K mg) : FnG P w K mg base 14 T.d_law.f T.d_law.fd ["_law_script"] (LawSp K Y.TL) := by
  obtain ⟨oc, od, kV, doc, pm, an, cdv, ct, osl, e1, lk, hcd⟩ := T.d_law.F.ex
  refine FnG.of (x := "law") (qual := "law") sc_law cdv ⟨oc, od, kV, doc, pm, an, ct, osl, e1, lk, hcd⟩ ?len (fun A outer s H vs Q E hgd hr h => ?_)
  case len =>
    rintro vs H Q E ⟨a, ns, rfl, _⟩
    rfl
  obtain ⟨a, ns, rfl, hs, hl, hT, k⟩ := h
  refine ⟨_, (pss_cons (ps_par (i := 1) (j := 2) rfl sc_law.nd rfl rfl (by decide) rfl rfl (pa_cons (pe_call (ok__law_pool (P := P) (w := w) T) (hr.mono (by decide)) (by rfl) T.d__law_pool.g T.d__law_pool.F.kp T.d__law_pool.b .nil pass0 (pa_cons (pv 0) (pa_cons pe_int pa_nil))) (pa_cons (pe_call (ok__law_pool (P := P) (w := w) T) (hr.mono (by decide)) (by rfl) T.d__law_pool.g T.d__law_pool.F.kp T.d__law_pool.b .nil pass0 (pa_cons (pv 0) (pa_cons pe_int pa_nil))) pa_nil)) (by rfl))
      (pss_cons (ps_set (i := 3) sc_law.nd rfl (by first | exact Or.inl rfl | exact Or.inr rfl) (pe_ifExp (pt_cmpR op_eq (pe_call (ok__law_take (P := P) (w := w) T) (hr.mono (by decide)) (by rfl) T.d__law_take.g T.d__law_take.F.kp T.d__law_take.b .nil pass0 (pa_cons (pv 1) (pa_cons pe_int pa_nil))) pe_int (nomark _)) (pe_call (ok__law_loose_book (P := P) (w := w) T) (hr.mono (by decide)) (by rfl) T.d__law_loose_book.g T.d__law_loose_book.F.kp T.d__law_loose_book.b .nil pass0 (pa_cons (pv 1) (pa_cons pe_int (pa_cons pe_int pa_nil)))) (pe_call (ok__law_some_book (P := P) (w := w) T) (hr.mono (by decide)) (by rfl) T.d__law_some_book.g T.d__law_some_book.F.kp T.d__law_some_book.b .nil pass0 (pa_cons (pv 1) (pa_cons pe_int pa_nil)))))
      (pss_cons (ps_set (i := 4) sc_law.nd rfl (by first | exact Or.inl rfl | exact Or.inr rfl) (pe_call (ok__law_data (P := P) (w := w) T) (hr.mono (by decide)) (by rfl) T.d__law_data.g T.d__law_data.F.kp T.d__law_data.b .nil pass0 (pa_cons (pv 2) (pa_cons (pv 3) (pa_cons (pe_ifExp (pt_cmpR op_lt (pe_callB (lenK (K := K)) (by rfl) T.b_len (by decide +kernel) (pa_cons (pv 3) pa_nil)) pe_int (nomark _)) pe_int pe_int) (pa_cons pe_int pa_nil))))))
      (pss_cons (ps_set (i := 5) sc_law.nd rfl (by first | exact Or.inl rfl | exact Or.inr rfl) (pe_call (ok__law_greatest (P := P) (w := w) T) (hr.mono (by decide)) (by rfl) T.d__law_greatest.g T.d__law_greatest.F.kp T.d__law_greatest.b .nil pass0 (pa_cons (pv 3) (pa_cons (pv 4) pa_nil))))
      (pss_cons (ps_if (PW.pt (pw_or (pt_not (pt_val (pe_callG (ok__law_is_right (P := P) (w := w) T Y) hgd (hr.mono (by decide)) (by rfl) T.d__law_is_right.g T.d__law_is_right.F.kp T.d__law_is_right.b pass0 (pa_cons (pv 3) (pa_cons (pv 4) (pa_cons (pv 5) pa_nil)))))) (pw_or1 (pt_not (pt_val (pe_callG (ok__law_bent_right (P := P) (w := w) T Y Z) hgd (hr.mono (by decide)) (by rfl) T.d__law_bent_right.g T.d__law_bent_right.F.kp T.d__law_bent_right.b pass0 (pa_cons (pv 2) (pa_cons (pv 3) (pa_cons (pv 4) (pa_cons (pv 5) pa_nil))))))))))
      (pss_one (ps_ret pe_bl))
      pss_nil)
      (pss_cons (ps_set (i := 6) sc_law.nd rfl (by first | exact Or.inl rfl | exact Or.inr rfl) (pe_call (ok__law_take (P := P) (w := w) T) (hr.mono (by decide)) (by rfl) T.d__law_take.g T.d__law_take.F.kp T.d__law_take.b .nil pass0 (pa_cons (pv 2) (pa_cons (pe_callB (lenK (K := K)) (by rfl) T.b_len (by decide +kernel) (pa_cons (pv 3) pa_nil)) pa_nil))))
      (pss_cons (ps_set (i := 7) sc_law.nd rfl (by first | exact Or.inl rfl | exact Or.inr rfl) (pe_op (catK (K := K)) (pe_op (catK (K := K)) (pe_slice (slTK (K := K)) (pv 4) po_none (po_some (pv 6))) (pe_tup (pa_cons (pe_tup pa_nil) pa_nil))) (pe_slice (slTK (K := K)) (pv 4) (po_some (pe_op op_add (pv 6) pe_int)) po_none)))
      (pss_one (ps_ret (pe_and (pe_callG (ok__law_is_right (P := P) (w := w) T Y) hgd (hr.mono (by decide)) (by rfl) T.d__law_is_right.g T.d__law_is_right.F.kp T.d__law_is_right.b pass0 (pa_cons (pv 3) (pa_cons (pv 7) (pa_cons (pe_call (ok__law_greatest (P := P) (w := w) T) (hr.mono (by decide)) (by rfl) T.d__law_greatest.g T.d__law_greatest.F.kp T.d__law_greatest.b .nil pass0 (pa_cons (pv 3) (pa_cons (pv 7) pa_nil))) pa_nil)))) (pe_one (pe_cmpR (eqDK (K := K) hr) (pe_call (ok_whole (P := P) (w := w) T Y) (hr.mono (by decide)) (by rfl) T.d_whole.g T.d_whole.F.kp T.d_whole.b .nil pass0 (pa_cons (pv 3) (pa_cons (pe_op (repAK (K := K)) (pe_tup (pa_cons (pe_tup pa_nil) pa_nil)) (pe_callB (lenK (K := K)) (by rfl) T.b_len (by decide +kernel) (pa_cons (pv 3) pa_nil))) pa_nil))) (pe_tup pa_nil) (nomark _))))))))))))), ?_⟩
  refine ⟨_, rfl, ⟨a, ns, 0, rfl, hs, hl, by omega, fun p H1 hp e1 jp => ⟨_, rfl, ⟨a, ns, 1, rfl, ex_l e1 hs, hl, by omega, fun q H2 hq e2 jq => ⟨_, _, rfl, ?_⟩⟩⟩⟩⟩
  have hpq : q ≠ p := jp.ne hq
  have jp2 := jp.ex e2
  refine q_asgR (book_draw rfl jp2 fun vb B H3 jx3 jp3 hB hR => ?_)
  have jq3 : JarAt H3 q := by
    obtain ⟨x, y, h1, h2⟩ := jq
    exact ⟨x, y, jx3 q _ hpq h1, h2⟩
  have f3 := jx3.fk jp2
  have hr4 := hR.2.1
  have hr1 := hR.1
  have elen : ∀ {σ : L2.St} {H' : Hp}, σ[3]? = some (some vb) → BkN H' vb B → ED K (tCB (rLen K) (tCons (tVar 3) tNil)) σ H' (.int (B.length : Int)) := fun hs hb => ed_lenT (xs := B) (enc := schD) (ed_var hs hb.dp)
  have hhi : (if B.length < 4 then 3 else 2 : Nat) ≤ 3 := by split <;> omega
  refine q_asgR ⟨_, rfl, _, rfl, (ed_if (K := K) (d := .int ((if B.length < 4 then 3 else 2 : Nat) : Int)) (x := decide ((B.length : Int) < 4)) (et_B (ed_op (elen rfl hB) ed_int (rd_b (g := fun i j => decide (i < j))))) (fun hx => ed_int.is (by rw [if_pos (by have := of_decide_eq_true hx; omega)]; rfl)) (fun hx => ed_int.is (by rw [if_neg (by have := of_decide_eq_false hx; omega)]; rfl))) H3 (Ex.refl _) _ fun vh H4 e4 ph => ?_⟩
  cases dp_int ph
  refine ⟨q, vb, B, _, rfl, jq3.ex e4, hB.ex e4, hR, hhi, fun vd R H5 jx5 ja5 pd hD => ?_⟩
  have f5 := jx5.fk (jq3.ex e4)
  have hB5 := (hB.ex e4).fk f5
  have T5 : Tabs Y.TL H5 := tabs_jx ((tabs_jx ((hT.ext e1).ext e2) jx3 jp2).ext e4) jx5 (jq3.ex e4)
  refine q_asgD (ed_callN (eb_var rfl hB5) (eds_cons (ed_var rfl pd) eds_nil) ⟨R, rfl, hD, rfl⟩) (fun vg H6 e6 pg => ?_)
  have hB6 := hB5.ex e6
  have pd6 := pd.ex e6
  have T6 := T5.ext e6
  have ja6 := ja5.ex e6
  refine q_ifR ⟨_, rfl, _, rfl, _, rfl, vb, [vd, vg], B, [dataD R, lotsD (dueL B R)], .bool true, rfl, hB6, .cons pd6 (.cons pg .nil), T6, ⟨R, rfl, hD, rfl⟩, fun v H7 e7 T7 pv => ?_⟩
  cases dp_bl pv
  refine ⟨true, rfl, ?_⟩
  simp only [Bool.not_true, Bool.false_eq_true, if_false]
  refine ⟨_, rfl, _, rfl, _, rfl, _, rfl, q, vb, vd, vg, B, R, rfl, ja6.kn e7, hB6.kn e7, dp_kn pd6 e7, dp_kn pg e7, T7, hD, fun H8 jn8 T8 ja8 => ?_⟩
  refine ⟨true, rfl, ?_⟩
  simp only [Bool.not_true, Bool.false_eq_true, if_false]
  have ja7 := ja6.kn e7
  have fk8 : FK H7 H8 := by
    have ne : ∀ (b : Addr) (o : HO), H7 b = some o → (∀ xs, o ≠ .lst xs) → b ≠ q := fun b o h n z => by
      obtain ⟨x, y, h1, _⟩ := ja7
      rw [z, h1] at h
      cases h; exact n _ rfl
    refine ⟨fun b xs h => ?_, fun b o xs h => jn8 b _ (ne b _ h fun _ z => nomatch z) h fun _ z => nomatch z⟩
    rcases h with h | ⟨o, h⟩
    · exact .inl (jn8 b _ (ne b _ h fun _ z => nomatch z) h fun _ z => nomatch z)
    · exact .inr ⟨o, jn8 b _ (ne b _ h fun _ z => nomatch z) h fun _ z => nomatch z⟩
  have hB8 := (hB6.kn e7).fk fk8
  have pd8 := dp_tk fk8.1 _ _ (stay_tupled _ (tupled_data R)) (dp_kn pd6 e7)
  refine q_asgR (ej_take (K := K) (top := B.length) rfl ja8 (eds_cons (elen rfl hB8) eds_nil) hr1 (by omega) fun i H9 hi jx9 ja9 => ?_)
  have f9 := jx9.fk ja8
  have hB9 := hB8.fk f9
  have pd9 := dp_tk f9.1 _ _ (stay_tupled _ (tupled_data R)) pd8
  have T9 := tabs_jx T8 jx9 ja8
  have qd : ∀ {H' : Hp}, Dp K H' vd (dataD R) → Dp K H' vd (.tuple (R.map rowsD)) := fun h => h
  obtain ⟨hl1, hl2⟩ := less_data hD hi
  have hRl := hD.len
  refine q_asgD (K := K) (d := dataD (R.take i ++ [[]] ++ R.drop (i + 1))) ((ed_op (ed_op (ed_slTo (ed_var rfl (qd pd9)) (ed_var rfl (.int _))) (ed_tup (eds_cons (ed_tup eds_nil (by show 0 ≤ 100000; omega)) eds_nil) (by show 1 ≤ 100000; omega)) (rd_catA (by rw [List.length_take, List.length_map]; show _ + 1 ≤ 100000; omega))) (ed_slFrom (i := i + 1) (ed_var rfl (qd pd9)) ((ed_op (ed_var rfl (.int _)) ed_int rd_add).is (congrArg PyData.int (by omega)))) (rd_catA (by rw [List.length_append, List.length_take, List.length_drop, List.length_map]; show _ + 1 + _ ≤ 100000; omega))).is (congrArg PyData.tuple hl1)) (fun vl H10 e10 pl => ?_)
  have hB10 := hB9.ex e10
  have T10 := T9.ext e10
  obtain ⟨hn1, hn2⟩ := nil_data hD.book hD.small
  have nilD : ∀ n : Nat, PyData.tuple (List.replicate n (PyData.tuple [])) = dataD (List.replicate n []) := fun n => by
    unfold dataD; rw [List.map_replicate]; rfl
  refine sn_ret (TL := Y.TL) T10 (edn_and (x := true) (y := true) (edn_call (fun H2 e2 => eb_var rfl (hB10.kn e2)) (fun H2 e2 => eds_cons (ed_var rfl (dp_kn pl e2)) (eds_cons (ed_callN (eb_var rfl (hB10.kn e2)) (eds_cons (ed_var rfl (dp_kn pl e2)) eds_nil) ⟨_, rfl, hl2, rfl⟩) eds_nil)) ⟨_, rfl, hl2, rfl⟩)
    (fun _ => (edn_op (edn_call (fun H2 e2 => eb_var rfl (hB10.kn e2)) (fun H2 e2 => eds_cons ((ed_op (ed_tup (eds_cons (ed_tup eds_nil (by show 0 ≤ 100000; omega)) eds_nil) (by show 1 ≤ 100000; omega)) (elen rfl (hB10.kn e2)) (rd_rep hr1 (by omega))).is (nilD _)) eds_nil) ⟨_, [], rfl, hn1, hn2, rfl⟩) (fun H2 e2 => ed_tup (ds := []) eds_nil (by show 0 ≤ 100000; omega)) (rd_eqD (shaped_lots []) shaped_nil)).is (by rfl))) (fun v H11 e11 T11 pv => ?_)
  cases dp_bl pv
  exact k H11
end
end BB
/-! E1: the end, for a promise that holds where no guard is on the way. -/
namespace BB
open PySem L2 Evl LamX NdefX
open PySem.Spec PyProof.Rows
section
variable {P : Program} {w : World} {K : PySem.W.Frag} {mg mb : Str → Option Value} {a : Addr} {cs : List (Addr × Addr)} {s : Shared} {vs : List Value} {ns : List Int}
/-- the script and the empty tables, nothing else -/
structure TopH (K : PySem.W.Frag) (s : Shared) (a : Addr) (cs : List (Addr × Addr)) (vs : List Value) (ns : List Int) (H : Hp) : Prop where
  tab : ∀ p ∈ cs, H p.2 = some (.tbl #[])
  kind : ∀ b, H b = none ∨ (∃ p ∈ cs, b = p.2 ∧ H b = some (.tbl #[])) ∨ (b = a ∧ K.lookup a = none ∧ H b = some (.frz { cls := .type "list", data := .seq vs.toArray } (.lst (ns.map V.int))))
  seq : SqL K H a (ns.map V.int)
/-- what stands at the top -/
structure TopS (K : PySem.W.Frag) (mg mb : Str → Option Value) (a : Addr) (cs : List (Addr × Addr)) (vs : List Value) (ns : List Int) (s : Shared) : Prop where
  kin : K.In s.heap
  glob : s.heap.Ns mainGlobals mg
  nb : s.heap.Ns builtinsNs mb
  bb : ∀ x : Str, x ≠ "__name__" → mb x = bootBuiltins x
  lim : s.heap.NoLimit
  gens : s.gens = #[]
  tab : ∀ p ∈ cs, s.heap.get? p.2 = some { cls := .none, data := .fields #[] }
  tabK : ∀ p ∈ cs, K.lookup p.2 = none
  code : ∀ p ∈ cs, PySem.W.CodeHd s.heap p.1 p.2
  bm : ∃ (bm : Addr) (ob : Obj), mg "__builtins__" = some (.ref bm) ∧ bm ≠ builtinsNs ∧ s.heap.get? bm = some ob ∧ ob.cls = .type "module" ∧ ob.dict = some builtinsNs ∧ ob.data = .plain
  arg : s.heap.get? a = some { cls := .type "list", data := .seq vs.toArray }
  hin : IntsAre vs ns
  len : ns.length ≤ sizeLine
theorem TopS.heap (S : TopS K mg mb a cs vs ns s) : ∃ H, TopH K s a cs vs ns H := by
  classical
  have lenV := S.hin.length
  have rv := vals_ints S.hin
  have aT : ∀ p ∈ cs, a ≠ p.2 := fun p hp z => by
    have q := S.tab p hp
    rw [← z, S.arg] at q
    have z' : Data.seq vs.toArray _ = Data.fields #[] := congrArg Obj.data (Option.some.inj q)
    cases z'
  cases hk : K.lookup a with
  | some o =>
    have e := S.kin a o hk
    rw [S.arg] at e
    cases e
    refine ⟨fun b => if ∃ p ∈ cs, b = p.2 then some (.tbl #[]) else none, fun p hp => if_pos ⟨p, hp, rfl⟩, fun b => ?_, .inr ⟨_, vs.toArray, _, hk, rfl, rfl, rfl, by rw [List.size_toArray, lenV]; exact S.len, by simpa using rv⟩⟩
    by_cases hb : ∃ p ∈ cs, b = p.2
    · obtain ⟨p, hp, e⟩ := hb
      exact .inr (.inl ⟨p, hp, e, if_pos ⟨p, hp, e⟩⟩)
    · exact .inl (if_neg hb)
  | none =>
    refine ⟨fun b => if b = a then some (.frz { cls := .type "list", data := .seq vs.toArray } (.lst (ns.map V.int))) else if ∃ p ∈ cs, b = p.2 then some (.tbl #[]) else none, fun p hp => ?_, fun b => ?_, .inl (.inr ⟨{ cls := .type "list", data := .seq vs.toArray }, if_pos rfl⟩)⟩
    · show (if p.2 = a then _ else _) = _
      rw [if_neg (Ne.symm (aT p hp))]
      exact if_pos ⟨p, hp, rfl⟩
    · by_cases ha : b = a
      · exact .inr (.inr ⟨ha, hk, if_pos ha⟩)
      · by_cases hb : ∃ p ∈ cs, b = p.2
        · obtain ⟨p, hp, e⟩ := hb
          refine .inr (.inl ⟨p, hp, e, ?_⟩)
          show (if b = a then _ else _) = _
          rw [if_neg ha]
          exact if_pos ⟨p, hp, e⟩
        · refine .inl ?_
          show (if b = a then _ else _) = _
          rw [if_neg ha]
          exact if_neg hb
section
variable {H : Hp} (S : TopS K mg mb a cs vs ns s) (T : TopH K s a cs vs ns H)
include S T
/-- an object that is neither a list of values nor an empty record is not tracked -/
theorem top_free {b : Addr} {o : Obj} (e : s.heap.get? b = some o) (h1 : ∀ ys n, o.data ≠ .seq ys n) (h2 : o.data ≠ .fields #[]) : H b = none := by
  rcases T.kind b with h | ⟨p, hp, rfl, _⟩ | ⟨rfl, _⟩
  · exact h
  · rw [S.tab p hp] at e
    cases e
    exact absurd rfl h2
  · rw [S.arg] at e
    cases e
    exact absurd rfl (h1 _ _)
theorem top_base {b : Addr} {o : Obj} (e : s.heap.get? b = some o) (h1 : ∀ ys n, o.data ≠ .seq ys n) (h2 : o.data ≠ .fields #[]) : (hidT s.heap H).get? b = some o := hidT_get e (top_free S T e h1 h2)
theorem top_ns {b : Addr} {m : Str → Option Value} (h : s.heap.Ns b m) : (hidT s.heap H).Ns b m := by
  obtain ⟨o, es, ep, e, d, r⟩ := h
  exact ⟨o, es, ep, top_base S T e (fun ys n z => by rw [d] at z; cases z) (fun z => by rw [d] at z; cases z), d, r⟩
theorem top_kin : K.In (hidT s.heap H) := fun b o e => by
  refine hidT_get (S.kin b o e) ?_
  rcases T.kind b with h | ⟨p, hp, rfl, _⟩ | ⟨rfl, hk, _⟩
  · exact h
  · rw [S.tabK p hp] at e; cases e
  · rw [hk] at e; cases e
theorem top_hok : HOk P w H s.heap := fun b u e => by
  rcases T.kind b with h | ⟨p, hp, rfl, h⟩ | ⟨rfl, _, h⟩
  · rw [h] at e; cases e
  · rw [h] at e
    cases e
    exact S.tab p hp
  · rw [h] at e
    cases e
    exact ⟨S.arg, by rw [List.length_map]; exact S.len, vs, _, vals_ints S.hin, S.arg⟩
theorem top_env : Env0 P w K mg (hidT s.heap H) callerA [] s H :=
  ⟨rfl, ⟨top_kin S T, top_ns S T S.glob, ⟨mb, top_ns S T S.nb, S.bb⟩, let ⟨mc, h1, h2⟩ := S.lim; ⟨mc, top_ns S T h1, h2⟩⟩, fun b o e => of_hidT e, Nat.le_of_eq (hidT_size _ _), trivial, fun b hb => absurd (show b ∈ ([] : List Addr) from hb) (by simp), top_hok S T, .of_eq S.gens⟩
theorem top_tab : ∀ p ∈ cs, TabB (hidT s.heap H) mg p.1 p.2 := fun p hp => by
  have hTp := S.tab p hp
  refine ⟨?_, ?_, fun z => ?_⟩
  · obtain ⟨o, us, file, tf, flags, tg, inF, text, tt, e1, r1, r2, r3, r⟩ := S.code p hp
    refine ⟨o, us, file, tf, flags, tg, inF, text, tt, top_base S T e1 (fun ys n z => by rw [r2] at z; cases z) (fun z => ?_), r1, r2, r3, r⟩
    rw [r2] at z
    cases z
    simp at r3
  · obtain ⟨bm, ob, b1, b2, b3, b4, b5, b6⟩ := S.bm
    refine ⟨bm, ob, b1, b2, fun q => ?_, fun q => ?_, top_base S T b3 (fun ys n z => by rw [b6] at z; cases z) (fun z => by rw [b6] at z; cases z), b4, b5, b6⟩
    · obtain ⟨o, es, ep, e, hd, _⟩ := S.glob
      rw [q, e] at b3
      cases b3
      rw [hd] at b6
      cases b6
    · rw [q, hTp] at b3
      cases b3
      cases b6
  · obtain ⟨o, es, ep, e, hd, _⟩ := S.glob
    rw [z, hTp] at e
    cases e
    cases hd
end
/-- the law called at the top -/
theorem call_top {k : Nat} {fa : Addr} {fd : FuncData} {x : Str} {sp : Sp} (S : TopS K mg mb a cs vs ns s) (hr : Room k callerA)
    (F : ∀ base : Heap, K.In base → base.Ns mainGlobals mg → (∀ p ∈ cs, TabB base mg p.1 p.2) → FnG P w K mg base k fa fd [x] sp) (hbind : ∀ (s : Shared) (u : Value), BindsTo s fd ⟨[u], []⟩ [(x, u)])
    (hsp : ∀ H : Hp, (∀ p ∈ cs, H p.2 = some (.tbl #[])) → SqL K H a (ns.map V.int) → sp [.ref a] H (fun v _ => v = .bl true) fun _ _ _ => False) :
    codeAny (model P w) callerA (.call (.ref fa) ⟨[.ref a], []⟩) (fun r s' => r = .ok (.ret (.bool true)) ∧ OldK s.heap s'.heap ∧ s'.os = s.os ∧ AllBare s'.gens) s := by
  obtain ⟨H, T⟩ := S.heap
  refine codeAny_mono ((F _ (top_kin S T) (top_ns S T S.glob) (top_tab S T)).run callerA [] s H ⟨[.ref a], []⟩ [.ref a] [.ref a] _ _ rfl hr (top_env S T) (hbind s (.ref a)) (.cons rfl .nil) (hsp H T.tab T.seq)) fun r s' h => ?_
  match r, h with
  | .error e, h => exact (show False from h).elim
  | .ok .next, h => exact (show False from h).elim
  | .ok .brk, h => exact (show False from h).elim
  | .ok .cont, h => exact (show False from h).elim
  | .ok (.ret u), ⟨v, H', os, bare, un, hok', r', q⟩ =>
    have q : v = .bl true := q
    subst q
    obtain rfl : u = Value.bool true := r'
    have grown : ∀ p ∈ cs, ∃ more : Array Value, s'.heap.get? p.2 = some { cls := .none, data := .fields more } := fun p hp => by
      obtain ⟨more, z⟩ := un.tbls p.2 #[] (T.tab p hp)
      exact ⟨_, hok' p.2 _ z⟩
    have kept : ∀ b o, (∀ p ∈ cs, b ≠ p.2) → s.heap.get? b = some o → s'.heap.get? b = some o := fun b o nb e => by
      rcases T.kind b with h | ⟨p, hp, rfl, _⟩ | ⟨rfl, _, h⟩
      · exact un.keep b o e h (by intro z; exact absurd (show b ∈ ([] : List Addr) from z) (by simp)) (by simp)
      · exact absurd rfl (nb p hp)
      · obtain ⟨e1, _⟩ := top_hok (P := P) (w := w) S T b _ h
        obtain ⟨e2, _⟩ := hok' b _ (un.frzs b _ _ h)
        rw [e] at e1
        cases e1
        exact e2
    refine ⟨rfl, ⟨fun b o e => ?_, fun b o e => ?_⟩, os, bare⟩
    · by_cases hb : ∃ p ∈ cs, b = p.2
      · obtain ⟨p, hp, rfl⟩ := hb
        obtain ⟨more, hm⟩ := grown p hp
        rw [S.tab p hp] at e
        cases e
        exact .inr (.inl ⟨((S.code p hp).tab (S.tab p hp)).isCodeTable, rfl, #[], more, rfl, by rw [Array.empty_append]; exact hm⟩)
      · exact .inl (kept b o (fun p hp z => hb ⟨p, hp, z⟩) e)
    · by_cases hb : ∃ p ∈ cs, b = p.2
      · obtain ⟨p, hp, rfl⟩ := hb
        obtain ⟨more, hm⟩ := grown p hp
        exact ⟨_, hm⟩
      · exact ⟨o, kept b o (fun p hp z => hb ⟨p, hp, z⟩) e⟩
end
/-- what the head's heap gives for the law -/
def LawAtG (l : PySem.W.OpenLaw) (w : World) (K : PySem.W.Frag) (k n : Nat) (x : Str) (mg : Str → Option Value) (fa : Addr) (h : Heap) : Prop :=
  ∃ (fd : FuncData) (cs : List (Addr × Addr)) (sp : Sp), (∀ p ∈ cs, h.get? p.2 = some { cls := .none, data := .fields #[] }) ∧ (∀ p ∈ cs, K.lookup p.2 = none) ∧ (∀ p ∈ cs, PySem.W.CodeHd h p.1 p.2) ∧ (∀ (s : Shared) (u : Value), BindsTo s fd ⟨[u], []⟩ [(x, u)]) ∧
    (∀ (H : Hp) (a : Addr) (ns : List Int), ns.length ≤ n → (∀ p ∈ cs, H p.2 = some (.tbl #[])) → SqL K H a (ns.map V.int) → sp [.ref a] H (fun v _ => v = .bl true) fun _ _ _ => False) ∧
    ∀ base : Heap, K.In base → base.Ns mainGlobals mg → (∀ p ∈ cs, TabB base mg p.1 p.2) → FnG l.prog w K mg base k fa fd [x] sp
theorem walk_top {l : PySem.W.OpenLaw} {n k : Nat} {q : Program} {loose : List Str} {XP : (Str → Option Value) → Heap → Prop} {YP : World → Heap → Prop} {d : DefRec} {K : Params → PySem.W.Frag} {x : Str}
    (hn : l.most = some n) (hn2 : n ≤ sizeLine) (hdf : d.params.defaults = []) (hr : Room k callerA) (hY : ∀ (w : World) (h : Heap), YP w h → (K w.params).In h)
    (F : ∀ (w : World) (mg : Str → Option Value) (fa : Addr) (h : Heap), YP w h → (K w.params).In h → h.Ns mainGlobals mg → mg d.name = some (.ref fa) → LawAtG l w (K w.params) k n x mg fa h) :
    PySem.W.WalkO q loose XP YP l.row.toRowW d [] (fun f vs => PySem.call f vs) := by
  refine Att.attach_callB hn hdf fun w s₀ s₁ mg mb fa o pm cd doc a vs ns G Y ho hd hcd hmg hobj hints hlen hbits hg => ?_
  have KX := hY w _ Y
  obtain ⟨fd, cs, sp, hT, nT, C, hb, hsp, hF⟩ := F w mg fa _ Y KX G.T.g hmg
  exact call_top ⟨KX, G.T.g, G.T.b, G.T.builtins, G.T.nolimit, hg, hT, nT, C, G.T.bmain, hobj, hints, Nat.le_trans hlen hn2⟩ hr hF hb fun H hH hS => hsp H a ns hlen hH hS
end BB
/-! E2: what the head must show of the heap, and what the walk asks of the top, made of it. Printed by mkk3.py. -/
namespace BB
open PySem L2 Evl LamX NdefX
open He (Fa FnD ga ma fAd fnObs SaysE)
def faL : List Fa := [.free "len", .free "tuple", .free "all", .free "any", .free "isinstance", .free "int", .free "bool", .free "range", .free "enumerate", .free "zip", .free "sorted", .free "list", .free "dict", .free "max", .free "min", .free "repr", .free "super", .int "MOST_COLUMNS" 24, .int "MOST_IN_SCHEME" 8, .int "MOST_SOURCES" 12, .int "MOST_WORTH" 999999, .int "MOST_ROWS" 40, .int "MOST_LOTS" 3000, .glo "is_whole_number", .glo "is_between", .glo "is_below", .glo "is_rising", .glo "is_scheme", .glo "has_size", .glo "first_wrong", .glo "made_book", .glo "is_book", .glo "shared_of", .glo "are_neighbours", .glo "is_worth", .glo "is_row", .glo "wrong_row", .glo "wrong_place", .glo "has_entries", .glo "want_data", .glo "is_data", .glo "made_data", .glo "has_tags_form", .glo "lacking", .glo "is_tags", .glo "have", .glo "rank", .glo "in_order", .glo "lots_of", .glo "whole_of", .glo "whole", .glo "is_told_whole", .glo "is_whole", .glo "piece_with", .glo "pieces_of", .glo "hangs_of", .glo "worth_at", .glo "agree", .glo "are_lot", .glo "is_lot", .glo "lies_within", .glo "lies_in", .glo "_law_pool", .glo "_law_take", .glo "_law_one", .glo "_law_mixed", .glo "_law_rising", .glo "_law_common_columns", .glo "_law_are_near", .glo "_law_pieces_of", .glo "_law_is_hung", .glo "_law_scheme", .glo "_law_loose_book", .glo "_law_hung_book", .glo "_law_fellow_columns", .glo "_law_same_columns", .glo "_law_called", .glo "_law_glued", .glo "_law_ringless_book", .glo "_law_ring_book", .glo "_law_some_book", .glo "_law_data", .glo "_law_worth", .glo "_law_filled", .glo "_law_is_agreed", .glo "_law_sort_key", .glo "_law_in_order", .glo "_law_is_in", .glo "_law_every_tags", .glo "_law_are_lot", .glo "_law_greatest", .glo "_law_heard", .glo "_law_is_right", .glo "_law_bent_right", .glo "law", .glo "Fits", .glo "BadBook", .glo "BadData", .glo "Refused", .keep "is_whole_number", .keep "is_between", .keep "is_below", .keep "is_rising", .keep "is_scheme", .keep "has_size", .keep "first_wrong", .keep "made_book", .keep "is_book", .keep "shared_of", .keep "are_neighbours", .keep "is_worth", .keep "is_row", .keep "wrong_row", .keep "wrong_place", .keep "has_entries", .keep "want_data", .keep "is_data", .keep "made_data", .keep "has_tags_form", .keep "lacking", .keep "is_tags", .keep "have", .keep "rank", .keep "in_order", .keep "lots_of", .keep "whole_of", .keep "whole", .keep "is_told_whole", .keep "is_whole", .keep "piece_with", .keep "pieces_of", .keep "hangs_of", .keep "worth_at", .keep "agree", .keep "are_lot", .keep "is_lot", .keep "lies_within", .keep "lies_in", .keep "_law_pool", .keep "_law_take", .keep "_law_one", .keep "_law_mixed", .keep "_law_rising", .keep "_law_common_columns", .keep "_law_are_near", .keep "_law_pieces_of", .keep "_law_is_hung", .keep "_law_scheme", .keep "_law_loose_book", .keep "_law_hung_book", .keep "_law_fellow_columns", .keep "_law_same_columns", .keep "_law_called", .keep "_law_glued", .keep "_law_ringless_book", .keep "_law_ring_book", .keep "_law_some_book", .keep "_law_data", .keep "_law_worth", .keep "_law_filled", .keep "_law_is_agreed", .keep "_law_sort_key", .keep "_law_in_order", .keep "_law_is_in", .keep "_law_every_tags", .keep "_law_are_lot", .keep "_law_greatest", .keep "_law_heard", .keep "_law_is_right", .keep "_law_bent_right", .keep "law", .cls "Fits", .noat "Fits" "book", .noat "Fits" "data", .noat "Fits" "beside", .noat "Fits" "near", .meth "Fits" "__init__", .meth "Fits" "rows", .meth "Fits" "hold", .meth "Fits" "fits_all", .meth "Fits" "fitting", .meth "Fits" "greatest", .meth "Fits" "piece", .meth "Fits" "fits_row", .meth "Fits" "rows_beside", .meth "Fits" "tags", .mkr "Fits", .exm "BadBook" "BadBook" true, .exm "BadData" "BadBook" false, .exm "BadData" "BadData" true]
abbrev fn_is_whole_number : FnD := ⟨("is_whole_number", none), "is_whole_number", "is_whole_number", defArgs st_is_whole_number, defBody st_is_whole_number, defScope st_is_whole_number⟩
abbrev fn_is_between : FnD := ⟨("is_between", none), "is_between", "is_between", defArgs st_is_between, defBody st_is_between, defScope st_is_between⟩
abbrev fn_is_below : FnD := ⟨("is_below", none), "is_below", "is_below", defArgs st_is_below, defBody st_is_below, defScope st_is_below⟩
abbrev fn_is_rising : FnD := ⟨("is_rising", none), "is_rising", "is_rising", defArgs st_is_rising, defBody st_is_rising, defScope st_is_rising⟩
abbrev fn_is_scheme : FnD := ⟨("is_scheme", none), "is_scheme", "is_scheme", defArgs st_is_scheme, defBody st_is_scheme, defScope st_is_scheme⟩
abbrev fn_has_size : FnD := ⟨("has_size", none), "has_size", "has_size", defArgs st_has_size, defBody st_has_size, defScope st_has_size⟩
abbrev fn_first_wrong : FnD := ⟨("first_wrong", none), "first_wrong", "first_wrong", defArgs st_first_wrong, defBody st_first_wrong, defScope st_first_wrong⟩
abbrev fn_made_book : FnD := ⟨("made_book", none), "made_book", "made_book", defArgs st_made_book, defBody st_made_book, defScope st_made_book⟩
abbrev fn_is_book : FnD := ⟨("is_book", none), "is_book", "is_book", defArgs st_is_book, defBody st_is_book, defScope st_is_book⟩
abbrev fn_shared_of : FnD := ⟨("shared_of", none), "shared_of", "shared_of", defArgs st_shared_of, defBody st_shared_of, defScope st_shared_of⟩
abbrev fn_are_neighbours : FnD := ⟨("are_neighbours", none), "are_neighbours", "are_neighbours", defArgs st_are_neighbours, defBody st_are_neighbours, defScope st_are_neighbours⟩
abbrev fn_is_worth : FnD := ⟨("is_worth", none), "is_worth", "is_worth", defArgs st_is_worth, defBody st_is_worth, defScope st_is_worth⟩
abbrev fn_is_row : FnD := ⟨("is_row", none), "is_row", "is_row", defArgs st_is_row, defBody st_is_row, defScope st_is_row⟩
abbrev fn_wrong_row : FnD := ⟨("wrong_row", none), "wrong_row", "wrong_row", defArgs st_wrong_row, defBody st_wrong_row, defScope st_wrong_row⟩
abbrev fn_wrong_place : FnD := ⟨("wrong_place", none), "wrong_place", "wrong_place", defArgs st_wrong_place, defBody st_wrong_place, defScope st_wrong_place⟩
abbrev fn_has_entries : FnD := ⟨("has_entries", none), "has_entries", "has_entries", defArgs st_has_entries, defBody st_has_entries, defScope st_has_entries⟩
abbrev fn_want_data : FnD := ⟨("want_data", none), "want_data", "want_data", defArgs st_want_data, defBody st_want_data, defScope st_want_data⟩
abbrev fn_is_data : FnD := ⟨("is_data", none), "is_data", "is_data", defArgs st_is_data, defBody st_is_data, defScope st_is_data⟩
abbrev fn_made_data : FnD := ⟨("made_data", none), "made_data", "made_data", defArgs st_made_data, defBody st_made_data, defScope st_made_data⟩
abbrev fn_has_tags_form : FnD := ⟨("has_tags_form", none), "has_tags_form", "has_tags_form", defArgs st_has_tags_form, defBody st_has_tags_form, defScope st_has_tags_form⟩
abbrev fn_lacking : FnD := ⟨("lacking", none), "lacking", "lacking", defArgs st_lacking, defBody st_lacking, defScope st_lacking⟩
abbrev fn_is_tags : FnD := ⟨("is_tags", none), "is_tags", "is_tags", defArgs st_is_tags, defBody st_is_tags, defScope st_is_tags⟩
abbrev fn_have : FnD := ⟨("have", none), "have", "have", defArgs st_have, defBody st_have, defScope st_have⟩
abbrev fn_rank : FnD := ⟨("rank", none), "rank", "rank", defArgs st_rank, defBody st_rank, defScope st_rank⟩
abbrev fn_in_order : FnD := ⟨("in_order", none), "in_order", "in_order", defArgs st_in_order, defBody st_in_order, defScope st_in_order⟩
abbrev fn_lots_of : FnD := ⟨("lots_of", none), "lots_of", "lots_of", defArgs st_lots_of, defBody st_lots_of, defScope st_lots_of⟩
abbrev fn_whole_of : FnD := ⟨("whole_of", none), "whole_of", "whole_of", defArgs st_whole_of, defBody st_whole_of, defScope st_whole_of⟩
abbrev fn_whole : FnD := ⟨("whole", none), "whole", "whole", defArgs st_whole, defBody st_whole, defScope st_whole⟩
abbrev fn_is_told_whole : FnD := ⟨("is_told_whole", none), "is_told_whole", "is_told_whole", defArgs st_is_told_whole, defBody st_is_told_whole, defScope st_is_told_whole⟩
abbrev fn_is_whole : FnD := ⟨("is_whole", none), "is_whole", "is_whole", defArgs st_is_whole, defBody st_is_whole, defScope st_is_whole⟩
abbrev fn_piece_with : FnD := ⟨("piece_with", none), "piece_with", "piece_with", defArgs st_piece_with, defBody st_piece_with, defScope st_piece_with⟩
abbrev fn_pieces_of : FnD := ⟨("pieces_of", none), "pieces_of", "pieces_of", defArgs st_pieces_of, defBody st_pieces_of, defScope st_pieces_of⟩
abbrev fn_hangs_of : FnD := ⟨("hangs_of", none), "hangs_of", "hangs_of", defArgs st_hangs_of, defBody st_hangs_of, defScope st_hangs_of⟩
abbrev fn_worth_at : FnD := ⟨("worth_at", none), "worth_at", "worth_at", defArgs st_worth_at, defBody st_worth_at, defScope st_worth_at⟩
abbrev fn_agree : FnD := ⟨("agree", none), "agree", "agree", defArgs st_agree, defBody st_agree, defScope st_agree⟩
abbrev fn_are_lot : FnD := ⟨("are_lot", none), "are_lot", "are_lot", defArgs st_are_lot, defBody st_are_lot, defScope st_are_lot⟩
abbrev fn_is_lot : FnD := ⟨("is_lot", none), "is_lot", "is_lot", defArgs st_is_lot, defBody st_is_lot, defScope st_is_lot⟩
abbrev fn_lies_within : FnD := ⟨("lies_within", none), "lies_within", "lies_within", defArgs st_lies_within, defBody st_lies_within, defScope st_lies_within⟩
abbrev fn_lies_in : FnD := ⟨("lies_in", none), "lies_in", "lies_in", defArgs st_lies_in, defBody st_lies_in, defScope st_lies_in⟩
abbrev fn__law_pool : FnD := ⟨("_law_pool", none), "_law_pool", "_law_pool", defArgs st__law_pool, defBody st__law_pool, defScope st__law_pool⟩
abbrev fn__law_take : FnD := ⟨("_law_take", none), "_law_take", "_law_take", defArgs st__law_take, defBody st__law_take, defScope st__law_take⟩
abbrev fn__law_one : FnD := ⟨("_law_one", none), "_law_one", "_law_one", defArgs st__law_one, defBody st__law_one, defScope st__law_one⟩
abbrev fn__law_mixed : FnD := ⟨("_law_mixed", none), "_law_mixed", "_law_mixed", defArgs st__law_mixed, defBody st__law_mixed, defScope st__law_mixed⟩
abbrev fn__law_rising : FnD := ⟨("_law_rising", none), "_law_rising", "_law_rising", defArgs st__law_rising, defBody st__law_rising, defScope st__law_rising⟩
abbrev fn__law_common_columns : FnD := ⟨("_law_common_columns", none), "_law_common_columns", "_law_common_columns", defArgs st__law_common_columns, defBody st__law_common_columns, defScope st__law_common_columns⟩
abbrev fn__law_are_near : FnD := ⟨("_law_are_near", none), "_law_are_near", "_law_are_near", defArgs st__law_are_near, defBody st__law_are_near, defScope st__law_are_near⟩
abbrev fn__law_pieces_of : FnD := ⟨("_law_pieces_of", none), "_law_pieces_of", "_law_pieces_of", defArgs st__law_pieces_of, defBody st__law_pieces_of, defScope st__law_pieces_of⟩
abbrev fn__law_is_hung : FnD := ⟨("_law_is_hung", none), "_law_is_hung", "_law_is_hung", defArgs st__law_is_hung, defBody st__law_is_hung, defScope st__law_is_hung⟩
abbrev fn__law_scheme : FnD := ⟨("_law_scheme", none), "_law_scheme", "_law_scheme", defArgs st__law_scheme, defBody st__law_scheme, defScope st__law_scheme⟩
abbrev fn__law_loose_book : FnD := ⟨("_law_loose_book", none), "_law_loose_book", "_law_loose_book", defArgs st__law_loose_book, defBody st__law_loose_book, defScope st__law_loose_book⟩
abbrev fn__law_hung_book : FnD := ⟨("_law_hung_book", none), "_law_hung_book", "_law_hung_book", defArgs st__law_hung_book, defBody st__law_hung_book, defScope st__law_hung_book⟩
abbrev fn__law_fellow_columns : FnD := ⟨("_law_fellow_columns", none), "_law_fellow_columns", "_law_fellow_columns", defArgs st__law_fellow_columns, defBody st__law_fellow_columns, defScope st__law_fellow_columns⟩
abbrev fn__law_same_columns : FnD := ⟨("_law_same_columns", none), "_law_same_columns", "_law_same_columns", defArgs st__law_same_columns, defBody st__law_same_columns, defScope st__law_same_columns⟩
abbrev fn__law_called : FnD := ⟨("_law_called", none), "_law_called", "_law_called", defArgs st__law_called, defBody st__law_called, defScope st__law_called⟩
abbrev fn__law_glued : FnD := ⟨("_law_glued", none), "_law_glued", "_law_glued", defArgs st__law_glued, defBody st__law_glued, defScope st__law_glued⟩
abbrev fn__law_ringless_book : FnD := ⟨("_law_ringless_book", none), "_law_ringless_book", "_law_ringless_book", defArgs st__law_ringless_book, defBody st__law_ringless_book, defScope st__law_ringless_book⟩
abbrev fn__law_ring_book : FnD := ⟨("_law_ring_book", none), "_law_ring_book", "_law_ring_book", defArgs st__law_ring_book, defBody st__law_ring_book, defScope st__law_ring_book⟩
abbrev fn__law_some_book : FnD := ⟨("_law_some_book", none), "_law_some_book", "_law_some_book", defArgs st__law_some_book, defBody st__law_some_book, defScope st__law_some_book⟩
abbrev fn__law_data : FnD := ⟨("_law_data", none), "_law_data", "_law_data", defArgs st__law_data, defBody st__law_data, defScope st__law_data⟩
abbrev fn__law_worth : FnD := ⟨("_law_worth", none), "_law_worth", "_law_worth", defArgs st__law_worth, defBody st__law_worth, defScope st__law_worth⟩
abbrev fn__law_filled : FnD := ⟨("_law_filled", none), "_law_filled", "_law_filled", defArgs st__law_filled, defBody st__law_filled, defScope st__law_filled⟩
abbrev fn__law_is_agreed : FnD := ⟨("_law_is_agreed", none), "_law_is_agreed", "_law_is_agreed", defArgs st__law_is_agreed, defBody st__law_is_agreed, defScope st__law_is_agreed⟩
abbrev fn__law_sort_key : FnD := ⟨("_law_sort_key", none), "_law_sort_key", "_law_sort_key", defArgs st__law_sort_key, defBody st__law_sort_key, defScope st__law_sort_key⟩
abbrev fn__law_in_order : FnD := ⟨("_law_in_order", none), "_law_in_order", "_law_in_order", defArgs st__law_in_order, defBody st__law_in_order, defScope st__law_in_order⟩
abbrev fn__law_is_in : FnD := ⟨("_law_is_in", none), "_law_is_in", "_law_is_in", defArgs st__law_is_in, defBody st__law_is_in, defScope st__law_is_in⟩
abbrev fn__law_every_tags : FnD := ⟨("_law_every_tags", none), "_law_every_tags", "_law_every_tags", defArgs st__law_every_tags, defBody st__law_every_tags, defScope st__law_every_tags⟩
abbrev fn__law_are_lot : FnD := ⟨("_law_are_lot", none), "_law_are_lot", "_law_are_lot", defArgs st__law_are_lot, defBody st__law_are_lot, defScope st__law_are_lot⟩
abbrev fn__law_greatest : FnD := ⟨("_law_greatest", none), "_law_greatest", "_law_greatest", defArgs st__law_greatest, defBody st__law_greatest, defScope st__law_greatest⟩
abbrev fn__law_heard : FnD := ⟨("_law_heard", none), "_law_heard", "_law_heard", defArgs st__law_heard, defBody st__law_heard, defScope st__law_heard⟩
abbrev fn__law_is_right : FnD := ⟨("_law_is_right", none), "_law_is_right", "_law_is_right", defArgs st__law_is_right, defBody st__law_is_right, defScope st__law_is_right⟩
abbrev fn__law_bent_right : FnD := ⟨("_law_bent_right", none), "_law_bent_right", "_law_bent_right", defArgs st__law_bent_right, defBody st__law_bent_right, defScope st__law_bent_right⟩
abbrev fn_law : FnD := ⟨("law", none), "law", "law", defArgs st_law, defBody st_law, defScope st_law⟩
abbrev fn_Fits_init : FnD := ⟨("Fits", some "__init__"), "__init__", "Fits.__init__", defArgs st_Fits_init, defBody st_Fits_init, defScope st_Fits_init⟩
abbrev fn_Fits_rows : FnD := ⟨("Fits", some "rows"), "rows", "Fits.rows", defArgs st_Fits_rows, defBody st_Fits_rows, defScope st_Fits_rows⟩
abbrev fn_Fits_hold : FnD := ⟨("Fits", some "hold"), "hold", "Fits.hold", defArgs st_Fits_hold, defBody st_Fits_hold, defScope st_Fits_hold⟩
abbrev fn_Fits_fits_all : FnD := ⟨("Fits", some "fits_all"), "fits_all", "Fits.fits_all", defArgs st_Fits_fits_all, defBody st_Fits_fits_all, defScope st_Fits_fits_all⟩
abbrev fn_Fits_fitting : FnD := ⟨("Fits", some "fitting"), "fitting", "Fits.fitting", defArgs st_Fits_fitting, defBody st_Fits_fitting, defScope st_Fits_fitting⟩
abbrev fn_Fits_greatest : FnD := ⟨("Fits", some "greatest"), "greatest", "Fits.greatest", defArgs st_Fits_greatest, defBody st_Fits_greatest, defScope st_Fits_greatest⟩
abbrev fn_Fits_piece : FnD := ⟨("Fits", some "piece"), "piece", "Fits.piece", defArgs st_Fits_piece, defBody st_Fits_piece, defScope st_Fits_piece⟩
abbrev fn_Fits_fits_row : FnD := ⟨("Fits", some "fits_row"), "fits_row", "Fits.fits_row", defArgs st_Fits_fits_row, defBody st_Fits_fits_row, defScope st_Fits_fits_row⟩
abbrev fn_Fits_rows_beside : FnD := ⟨("Fits", some "rows_beside"), "rows_beside", "Fits.rows_beside", defArgs st_Fits_rows_beside, defBody st_Fits_rows_beside, defScope st_Fits_rows_beside⟩
abbrev fn_Fits_tags : FnD := ⟨("Fits", some "tags"), "tags", "Fits.tags", defArgs st_Fits_tags, defBody st_Fits_tags, defScope st_Fits_tags⟩
def fnL : List FnD := [fn_is_whole_number, fn_is_between, fn_is_below, fn_is_rising, fn_is_scheme, fn_has_size, fn_first_wrong, fn_made_book, fn_is_book, fn_shared_of, fn_are_neighbours, fn_is_worth, fn_is_row, fn_wrong_row, fn_wrong_place, fn_has_entries, fn_want_data, fn_is_data, fn_made_data, fn_has_tags_form, fn_lacking, fn_is_tags, fn_have, fn_rank, fn_in_order, fn_lots_of, fn_whole_of, fn_whole, fn_is_told_whole, fn_is_whole, fn_piece_with, fn_pieces_of, fn_hangs_of, fn_worth_at, fn_agree, fn_are_lot, fn_is_lot, fn_lies_within, fn_lies_in, fn__law_pool, fn__law_take, fn__law_one, fn__law_mixed, fn__law_rising, fn__law_common_columns, fn__law_are_near, fn__law_pieces_of, fn__law_is_hung, fn__law_scheme, fn__law_loose_book, fn__law_hung_book, fn__law_fellow_columns, fn__law_same_columns, fn__law_called, fn__law_glued, fn__law_ringless_book, fn__law_ring_book, fn__law_some_book, fn__law_data, fn__law_worth, fn__law_filled, fn__law_is_agreed, fn__law_sort_key, fn__law_in_order, fn__law_is_in, fn__law_every_tags, fn__law_are_lot, fn__law_greatest, fn__law_heard, fn__law_is_right, fn__law_bent_right, fn_law, fn_Fits_init, fn_Fits_rows, fn_Fits_hold, fn_Fits_fits_all, fn_Fits_fitting, fn_Fits_greatest, fn_Fits_piece, fn_Fits_fits_row, fn_Fits_rows_beside, fn_Fits_tags]
/-! ### addresses, read of the heap -/
def codeOf (K : PySem.W.Frag) (f : Addr) : Value := match K.lookup f with
  | some ⟨_, _, .func fd, _⟩ => fd.code
  | _ => .none
def adr : Value → Addr
  | .ref a => a
  | _ => 0
def codeA (K : PySem.W.Frag) (f : Addr) : Addr := adr (codeOf K f)
def tabA (K : PySem.W.Frag) (c : Addr) : Addr := match K.lookup c with
  | some ⟨_, _, .fields vs, _⟩ => adr (vs.getD 11 .none)
  | _ => 0
def cellA (K : PySem.W.Frag) (f : Addr) : Addr := match K.lookup f with
  | some ⟨_, _, .func fd, _⟩ => (fd.closure.lookup nmClass).getD 0
  | _ => 0
theorem dT {K : PySem.W.Frag} {h : Heap} {mg : Str → Option Value} {x : Str} {st : Stmt} {ps : List Str} (X : K.In h) (G : h.Ns mainGlobals mg) (cg : (Fa.glo x).ok K = true) (ck : (Fa.keep x).ok K = true)
    (cl : ∃ (oc : Value) (od : Option Addr) (osl : Array (Option Value)) (kV doc pm : Value) (an : Option Addr) (cdv ct : Value), K.lookup (fAd K (x, none)) = some ⟨oc, od, .func (PySem.W.fnOf x x (defArgs st) (defBody st) (defScope st) .none kV doc pm an cdv ct), osl⟩ ∧ PySem.W.codeIn K cdv x = true)
    (hb : ∀ (kV doc pm : Value) (an : Option Addr) (cdv ct : Value) (us : List Value), us.length = ps.length → bindArgs (PySem.W.fnOf x x (defArgs st) (defBody st) (defScope st) .none kV doc pm an cdv ct) ⟨us, []⟩ = pure (ps.zip us)) : Nonempty (DefT K mg x st ps) := by
  obtain ⟨oc, od, osl, kV, doc, pm, an, cdv, ct, l, c⟩ := cl
  have F : Fun K x x st (ga K x) _ := fun_mk (st := st) l c (He.keep_ok ck)
  exact ⟨⟨ga K x, _, F, He.glo_ok X G cg, F.binds hb⟩⟩
theorem fT {K : PySem.W.Frag} {m q : Str} {st : Stmt} (cm : (Fa.meth "Fits" m).ok K = true)
    (cl : ∃ (oc : Value) (od : Option Addr) (osl : Array (Option Value)) (kV doc pm : Value) (an : Option Addr) (cdv ct : Value), K.lookup (fAd K ("Fits", some m)) = some ⟨oc, od, .func (PySem.W.fnOf m q (defArgs st) (defBody st) (defScope st) .none kV doc pm an cdv ct), osl⟩ ∧ PySem.W.codeIn K cdv q = true) :
    ∃ fd : FuncData, Fun K m q st (ma K (ga K "Fits") m) fd := by
  obtain ⟨oc, od, osl, kV, doc, pm, an, cdv, ct, l, c⟩ := cl
  exact ⟨_, fun_mk (st := st) l c (He.meth_ok cm).kp⟩
theorem txt_mk {K : PySem.W.Frag} {h : Heap} {mg : Str → Option Value} (X : K.In h) (G : h.Ns mainGlobals mg) (c : SaysE faL fnL K) : Nonempty (Txt K mg) := by
  obtain ⟨d_is_whole_number⟩ := dT (x := "is_whole_number") (st := st_is_whole_number) (ps := ["thing"]) X G (c.fact 23) (c.fact 99) (c.def_ (d := fn_is_whole_number) 0) (fun _ _ _ _ _ _ us hl => match us, hl with | [_], _ => rfl)
  obtain ⟨d_is_between⟩ := dT (x := "is_between") (st := st_is_between) (ps := ["thing", "least", "most"]) X G (c.fact 24) (c.fact 100) (c.def_ (d := fn_is_between) 1) (fun _ _ _ _ _ _ us hl => match us, hl with | [_, _, _], _ => rfl)
  obtain ⟨d_is_below⟩ := dT (x := "is_below") (st := st_is_below) (ps := ["thing", "bound"]) X G (c.fact 25) (c.fact 101) (c.def_ (d := fn_is_below) 2) (fun _ _ _ _ _ _ us hl => match us, hl with | [_, _], _ => rfl)
  obtain ⟨d_is_rising⟩ := dT (x := "is_rising") (st := st_is_rising) (ps := ["thing", "bound"]) X G (c.fact 26) (c.fact 102) (c.def_ (d := fn_is_rising) 3) (fun _ _ _ _ _ _ us hl => match us, hl with | [_, _], _ => rfl)
  obtain ⟨d_is_scheme⟩ := dT (x := "is_scheme") (st := st_is_scheme) (ps := ["thing"]) X G (c.fact 27) (c.fact 103) (c.def_ (d := fn_is_scheme) 4) (fun _ _ _ _ _ _ us hl => match us, hl with | [_], _ => rfl)
  obtain ⟨d_has_size⟩ := dT (x := "has_size") (st := st_has_size) (ps := ["thing"]) X G (c.fact 28) (c.fact 104) (c.def_ (d := fn_has_size) 5) (fun _ _ _ _ _ _ us hl => match us, hl with | [_], _ => rfl)
  obtain ⟨d_first_wrong⟩ := dT (x := "first_wrong") (st := st_first_wrong) (ps := ["thing"]) X G (c.fact 29) (c.fact 105) (c.def_ (d := fn_first_wrong) 6) (fun _ _ _ _ _ _ us hl => match us, hl with | [_], _ => rfl)
  obtain ⟨d_made_book⟩ := dT (x := "made_book") (st := st_made_book) (ps := ["thing"]) X G (c.fact 30) (c.fact 106) (c.def_ (d := fn_made_book) 7) (fun _ _ _ _ _ _ us hl => match us, hl with | [_], _ => rfl)
  obtain ⟨d_is_book⟩ := dT (x := "is_book") (st := st_is_book) (ps := ["thing"]) X G (c.fact 31) (c.fact 107) (c.def_ (d := fn_is_book) 8) (fun _ _ _ _ _ _ us hl => match us, hl with | [_], _ => rfl)
  obtain ⟨d_shared_of⟩ := dT (x := "shared_of") (st := st_shared_of) (ps := ["book", "i", "j"]) X G (c.fact 32) (c.fact 108) (c.def_ (d := fn_shared_of) 9) (fun _ _ _ _ _ _ us hl => match us, hl with | [_, _, _], _ => rfl)
  obtain ⟨d_are_neighbours⟩ := dT (x := "are_neighbours") (st := st_are_neighbours) (ps := ["book", "i", "j"]) X G (c.fact 33) (c.fact 109) (c.def_ (d := fn_are_neighbours) 10) (fun _ _ _ _ _ _ us hl => match us, hl with | [_, _, _], _ => rfl)
  obtain ⟨d_is_worth⟩ := dT (x := "is_worth") (st := st_is_worth) (ps := ["thing"]) X G (c.fact 34) (c.fact 110) (c.def_ (d := fn_is_worth) 11) (fun _ _ _ _ _ _ us hl => match us, hl with | [_], _ => rfl)
  obtain ⟨d_is_row⟩ := dT (x := "is_row") (st := st_is_row) (ps := ["book", "source", "thing"]) X G (c.fact 35) (c.fact 111) (c.def_ (d := fn_is_row) 12) (fun _ _ _ _ _ _ us hl => match us, hl with | [_, _, _], _ => rfl)
  obtain ⟨d_wrong_row⟩ := dT (x := "wrong_row") (st := st_wrong_row) (ps := ["book", "source", "rows"]) X G (c.fact 36) (c.fact 112) (c.def_ (d := fn_wrong_row) 13) (fun _ _ _ _ _ _ us hl => match us, hl with | [_, _, _], _ => rfl)
  obtain ⟨d_wrong_place⟩ := dT (x := "wrong_place") (st := st_wrong_place) (ps := ["book", "thing"]) X G (c.fact 37) (c.fact 113) (c.def_ (d := fn_wrong_place) 14) (fun _ _ _ _ _ _ us hl => match us, hl with | [_, _], _ => rfl)
  obtain ⟨d_has_entries⟩ := dT (x := "has_entries") (st := st_has_entries) (ps := ["book", "thing"]) X G (c.fact 38) (c.fact 114) (c.def_ (d := fn_has_entries) 15) (fun _ _ _ _ _ _ us hl => match us, hl with | [_, _], _ => rfl)
  obtain ⟨d_want_data⟩ := dT (x := "want_data") (st := st_want_data) (ps := ["book", "thing"]) X G (c.fact 39) (c.fact 115) (c.def_ (d := fn_want_data) 16) (fun _ _ _ _ _ _ us hl => match us, hl with | [_, _], _ => rfl)
  obtain ⟨d_is_data⟩ := dT (x := "is_data") (st := st_is_data) (ps := ["book", "thing"]) X G (c.fact 40) (c.fact 116) (c.def_ (d := fn_is_data) 17) (fun _ _ _ _ _ _ us hl => match us, hl with | [_, _], _ => rfl)
  obtain ⟨d_made_data⟩ := dT (x := "made_data") (st := st_made_data) (ps := ["book", "thing"]) X G (c.fact 41) (c.fact 117) (c.def_ (d := fn_made_data) 18) (fun _ _ _ _ _ _ us hl => match us, hl with | [_, _], _ => rfl)
  obtain ⟨d_has_tags_form⟩ := dT (x := "has_tags_form") (st := st_has_tags_form) (ps := ["book", "thing"]) X G (c.fact 42) (c.fact 118) (c.def_ (d := fn_has_tags_form) 19) (fun _ _ _ _ _ _ us hl => match us, hl with | [_, _], _ => rfl)
  obtain ⟨d_lacking⟩ := dT (x := "lacking") (st := st_lacking) (ps := ["data", "tags"]) X G (c.fact 43) (c.fact 119) (c.def_ (d := fn_lacking) 20) (fun _ _ _ _ _ _ us hl => match us, hl with | [_, _], _ => rfl)
  obtain ⟨d_is_tags⟩ := dT (x := "is_tags") (st := st_is_tags) (ps := ["book", "data", "thing"]) X G (c.fact 44) (c.fact 120) (c.def_ (d := fn_is_tags) 21) (fun _ _ _ _ _ _ us hl => match us, hl with | [_, _, _], _ => rfl)
  obtain ⟨d_have⟩ := dT (x := "have") (st := st_have) (ps := ["tags"]) X G (c.fact 45) (c.fact 121) (c.def_ (d := fn_have) 22) (fun _ _ _ _ _ _ us hl => match us, hl with | [_], _ => rfl)
  obtain ⟨d_rank⟩ := dT (x := "rank") (st := st_rank) (ps := ["tags"]) X G (c.fact 46) (c.fact 122) (c.def_ (d := fn_rank) 23) (fun _ _ _ _ _ _ us hl => match us, hl with | [_], _ => rfl)
  obtain ⟨d_in_order⟩ := dT (x := "in_order") (st := st_in_order) (ps := ["lots"]) X G (c.fact 47) (c.fact 123) (c.def_ (d := fn_in_order) 24) (fun _ _ _ _ _ _ us hl => match us, hl with | [_], _ => rfl)
  obtain ⟨d_lots_of⟩ := dT (x := "lots_of") (st := st_lots_of) (ps := ["fits"]) X G (c.fact 48) (c.fact 124) (c.def_ (d := fn_lots_of) 25) (fun _ _ _ _ _ _ us hl => match us, hl with | [_], _ => rfl)
  obtain ⟨d_whole_of⟩ := dT (x := "whole_of") (st := st_whole_of) (ps := ["book", "data"]) X G (c.fact 49) (c.fact 125) (c.def_ (d := fn_whole_of) 26) (fun _ _ _ _ _ _ us hl => match us, hl with | [_, _], _ => rfl)
  obtain ⟨d_whole⟩ := dT (x := "whole") (st := st_whole) (ps := ["book", "data"]) X G (c.fact 50) (c.fact 126) (c.def_ (d := fn_whole) 27) (fun _ _ _ _ _ _ us hl => match us, hl with | [_, _], _ => rfl)
  obtain ⟨d_is_told_whole⟩ := dT (x := "is_told_whole") (st := st_is_told_whole) (ps := ["book", "data", "thing"]) X G (c.fact 51) (c.fact 127) (c.def_ (d := fn_is_told_whole) 28) (fun _ _ _ _ _ _ us hl => match us, hl with | [_, _, _], _ => rfl)
  obtain ⟨d_is_whole⟩ := dT (x := "is_whole") (st := st_is_whole) (ps := ["book", "data", "thing"]) X G (c.fact 52) (c.fact 128) (c.def_ (d := fn_is_whole) 29) (fun _ _ _ _ _ _ us hl => match us, hl with | [_, _, _], _ => rfl)
  obtain ⟨d_piece_with⟩ := dT (x := "piece_with") (st := st_piece_with) (ps := ["book", "group", "source"]) X G (c.fact 53) (c.fact 129) (c.def_ (d := fn_piece_with) 30) (fun _ _ _ _ _ _ us hl => match us, hl with | [_, _, _], _ => rfl)
  obtain ⟨d_pieces_of⟩ := dT (x := "pieces_of") (st := st_pieces_of) (ps := ["book", "group"]) X G (c.fact 54) (c.fact 130) (c.def_ (d := fn_pieces_of) 31) (fun _ _ _ _ _ _ us hl => match us, hl with | [_, _], _ => rfl)
  obtain ⟨d_hangs_of⟩ := dT (x := "hangs_of") (st := st_hangs_of) (ps := ["book", "group"]) X G (c.fact 55) (c.fact 131) (c.def_ (d := fn_hangs_of) 32) (fun _ _ _ _ _ _ us hl => match us, hl with | [_, _], _ => rfl)
  obtain ⟨d_worth_at⟩ := dT (x := "worth_at") (st := st_worth_at) (ps := ["book", "data", "tags", "source", "column"]) X G (c.fact 56) (c.fact 132) (c.def_ (d := fn_worth_at) 33) (fun _ _ _ _ _ _ us hl => match us, hl with | [_, _, _, _, _], _ => rfl)
  obtain ⟨d_agree⟩ := dT (x := "agree") (st := st_agree) (ps := ["book", "data", "tags", "i", "j"]) X G (c.fact 57) (c.fact 133) (c.def_ (d := fn_agree) 34) (fun _ _ _ _ _ _ us hl => match us, hl with | [_, _, _, _, _], _ => rfl)
  obtain ⟨d_are_lot⟩ := dT (x := "are_lot") (st := st_are_lot) (ps := ["book", "data", "tags"]) X G (c.fact 58) (c.fact 134) (c.def_ (d := fn_are_lot) 35) (fun _ _ _ _ _ _ us hl => match us, hl with | [_, _, _], _ => rfl)
  obtain ⟨d_is_lot⟩ := dT (x := "is_lot") (st := st_is_lot) (ps := ["book", "data", "thing"]) X G (c.fact 59) (c.fact 135) (c.def_ (d := fn_is_lot) 36) (fun _ _ _ _ _ _ us hl => match us, hl with | [_, _, _], _ => rfl)
  obtain ⟨d_lies_within⟩ := dT (x := "lies_within") (st := st_lies_within) (ps := ["one", "two"]) X G (c.fact 60) (c.fact 136) (c.def_ (d := fn_lies_within) 37) (fun _ _ _ _ _ _ us hl => match us, hl with | [_, _], _ => rfl)
  obtain ⟨d_lies_in⟩ := dT (x := "lies_in") (st := st_lies_in) (ps := ["one", "two"]) X G (c.fact 61) (c.fact 137) (c.def_ (d := fn_lies_in) 38) (fun _ _ _ _ _ _ us hl => match us, hl with | [_, _], _ => rfl)
  obtain ⟨d__law_pool⟩ := dT (x := "_law_pool") (st := st__law_pool) (ps := ["_law_script", "_law_k"]) X G (c.fact 62) (c.fact 138) (c.def_ (d := fn__law_pool) 39) (fun _ _ _ _ _ _ us hl => match us, hl with | [_, _], _ => rfl)
  obtain ⟨d__law_take⟩ := dT (x := "_law_take") (st := st__law_take) (ps := ["_law_jar", "_law_top"]) X G (c.fact 63) (c.fact 139) (c.def_ (d := fn__law_take) 40) (fun _ _ _ _ _ _ us hl => match us, hl with | [_, _], _ => rfl)
  obtain ⟨d__law_one⟩ := dT (x := "_law_one") (st := st__law_one) (ps := ["_law_jar", "_law_things"]) X G (c.fact 64) (c.fact 140) (c.def_ (d := fn__law_one) 41) (fun _ _ _ _ _ _ us hl => match us, hl with | [_, _], _ => rfl)
  obtain ⟨d__law_mixed⟩ := dT (x := "_law_mixed") (st := st__law_mixed) (ps := ["_law_jar", "_law_things"]) X G (c.fact 65) (c.fact 141) (c.def_ (d := fn__law_mixed) 42) (fun _ _ _ _ _ _ us hl => match us, hl with | [_, _], _ => rfl)
  obtain ⟨d__law_rising⟩ := dT (x := "_law_rising") (st := st__law_rising) (ps := ["_law_lists"]) X G (c.fact 66) (c.fact 142) (c.def_ (d := fn__law_rising) 43) (fun _ _ _ _ _ _ us hl => match us, hl with | [_], _ => rfl)
  obtain ⟨d__law_common_columns⟩ := dT (x := "_law_common_columns") (st := st__law_common_columns) (ps := ["_law_book", "_law_i", "_law_j"]) X G (c.fact 67) (c.fact 143) (c.def_ (d := fn__law_common_columns) 44) (fun _ _ _ _ _ _ us hl => match us, hl with | [_, _, _], _ => rfl)
  obtain ⟨d__law_are_near⟩ := dT (x := "_law_are_near") (st := st__law_are_near) (ps := ["_law_book", "_law_i", "_law_j"]) X G (c.fact 68) (c.fact 144) (c.def_ (d := fn__law_are_near) 45) (fun _ _ _ _ _ _ us hl => match us, hl with | [_, _, _], _ => rfl)
  obtain ⟨d__law_pieces_of⟩ := dT (x := "_law_pieces_of") (st := st__law_pieces_of) (ps := ["_law_book", "_law_lot"]) X G (c.fact 69) (c.fact 145) (c.def_ (d := fn__law_pieces_of) 46) (fun _ _ _ _ _ _ us hl => match us, hl with | [_, _], _ => rfl)
  obtain ⟨d__law_is_hung⟩ := dT (x := "_law_is_hung") (st := st__law_is_hung) (ps := ["_law_book", "_law_lot"]) X G (c.fact 70) (c.fact 146) (c.def_ (d := fn__law_is_hung) 47) (fun _ _ _ _ _ _ us hl => match us, hl with | [_, _], _ => rfl)
  obtain ⟨d__law_scheme⟩ := dT (x := "_law_scheme") (st := st__law_scheme) (ps := ["_law_jar", "_law_wide", "_law_most"]) X G (c.fact 71) (c.fact 147) (c.def_ (d := fn__law_scheme) 48) (fun _ _ _ _ _ _ us hl => match us, hl with | [_, _, _], _ => rfl)
  obtain ⟨d__law_loose_book⟩ := dT (x := "_law_loose_book") (st := st__law_loose_book) (ps := ["_law_jar", "_law_most", "_law_wide"]) X G (c.fact 72) (c.fact 148) (c.def_ (d := fn__law_loose_book) 49) (fun _ _ _ _ _ _ us hl => match us, hl with | [_, _, _], _ => rfl)
  obtain ⟨d__law_hung_book⟩ := dT (x := "_law_hung_book") (st := st__law_hung_book) (ps := ["_law_jar", "_law_most", "_law_wide"]) X G (c.fact 73) (c.fact 149) (c.def_ (d := fn__law_hung_book) 50) (fun _ _ _ _ _ _ us hl => match us, hl with | [_, _, _], _ => rfl)
  obtain ⟨d__law_fellow_columns⟩ := dT (x := "_law_fellow_columns") (st := st__law_fellow_columns) (ps := ["_law_book", "_law_i"]) X G (c.fact 74) (c.fact 150) (c.def_ (d := fn__law_fellow_columns) 51) (fun _ _ _ _ _ _ us hl => match us, hl with | [_, _], _ => rfl)
  obtain ⟨d__law_same_columns⟩ := dT (x := "_law_same_columns") (st := st__law_same_columns) (ps := ["_law_jar", "_law_book"]) X G (c.fact 75) (c.fact 151) (c.def_ (d := fn__law_same_columns) 52) (fun _ _ _ _ _ _ us hl => match us, hl with | [_, _], _ => rfl)
  obtain ⟨d__law_called⟩ := dT (x := "_law_called") (st := st__law_called) (ps := ["_law_book", "_law_pairs"]) X G (c.fact 76) (c.fact 152) (c.def_ (d := fn__law_called) 53) (fun _ _ _ _ _ _ us hl => match us, hl with | [_, _], _ => rfl)
  obtain ⟨d__law_glued⟩ := dT (x := "_law_glued") (st := st__law_glued) (ps := ["_law_jar", "_law_size", "_law_begin"]) X G (c.fact 77) (c.fact 153) (c.def_ (d := fn__law_glued) 54) (fun _ _ _ _ _ _ us hl => match us, hl with | [_, _, _], _ => rfl)
  obtain ⟨d__law_ringless_book⟩ := dT (x := "_law_ringless_book") (st := st__law_ringless_book) (ps := ["_law_jar", "_law_most"]) X G (c.fact 78) (c.fact 154) (c.def_ (d := fn__law_ringless_book) 55) (fun _ _ _ _ _ _ us hl => match us, hl with | [_, _], _ => rfl)
  obtain ⟨d__law_ring_book⟩ := dT (x := "_law_ring_book") (st := st__law_ring_book) (ps := ["_law_jar", "_law_most"]) X G (c.fact 79) (c.fact 155) (c.def_ (d := fn__law_ring_book) 56) (fun _ _ _ _ _ _ us hl => match us, hl with | [_, _], _ => rfl)
  obtain ⟨d__law_some_book⟩ := dT (x := "_law_some_book") (st := st__law_some_book) (ps := ["_law_jar", "_law_most"]) X G (c.fact 80) (c.fact 156) (c.def_ (d := fn__law_some_book) 57) (fun _ _ _ _ _ _ us hl => match us, hl with | [_, _], _ => rfl)
  obtain ⟨d__law_data⟩ := dT (x := "_law_data") (st := st__law_data) (ps := ["_law_jar", "_law_book", "_law_high", "_law_few"]) X G (c.fact 81) (c.fact 157) (c.def_ (d := fn__law_data) 58) (fun _ _ _ _ _ _ us hl => match us, hl with | [_, _, _, _], _ => rfl)
  obtain ⟨d__law_worth⟩ := dT (x := "_law_worth") (st := st__law_worth) (ps := ["_law_book", "_law_rows", "_law_i", "_law_tag", "_law_c"]) X G (c.fact 82) (c.fact 158) (c.def_ (d := fn__law_worth) 59) (fun _ _ _ _ _ _ us hl => match us, hl with | [_, _, _, _, _], _ => rfl)
  obtain ⟨d__law_filled⟩ := dT (x := "_law_filled") (st := st__law_filled) (ps := ["_law_tags"]) X G (c.fact 83) (c.fact 159) (c.def_ (d := fn__law_filled) 60) (fun _ _ _ _ _ _ us hl => match us, hl with | [_], _ => rfl)
  obtain ⟨d__law_is_agreed⟩ := dT (x := "_law_is_agreed") (st := st__law_is_agreed) (ps := ["_law_book", "_law_rows", "_law_i", "_law_one_here", "_law_j", "_law_two"]) X G (c.fact 84) (c.fact 160) (c.def_ (d := fn__law_is_agreed) 61) (fun _ _ _ _ _ _ us hl => match us, hl with | [_, _, _, _, _, _], _ => rfl)
  obtain ⟨d__law_sort_key⟩ := dT (x := "_law_sort_key") (st := st__law_sort_key) (ps := ["_law_tags"]) X G (c.fact 85) (c.fact 161) (c.def_ (d := fn__law_sort_key) 62) (fun _ _ _ _ _ _ us hl => match us, hl with | [_], _ => rfl)
  obtain ⟨d__law_in_order⟩ := dT (x := "_law_in_order") (st := st__law_in_order) (ps := ["_law_lots"]) X G (c.fact 86) (c.fact 162) (c.def_ (d := fn__law_in_order) 63) (fun _ _ _ _ _ _ us hl => match us, hl with | [_], _ => rfl)
  obtain ⟨d__law_is_in⟩ := dT (x := "_law_is_in") (st := st__law_is_in) (ps := ["_law_one_here", "_law_two"]) X G (c.fact 87) (c.fact 163) (c.def_ (d := fn__law_is_in) 64) (fun _ _ _ _ _ _ us hl => match us, hl with | [_, _], _ => rfl)
  obtain ⟨d__law_every_tags⟩ := dT (x := "_law_every_tags") (st := st__law_every_tags) (ps := ["_law_data_here"]) X G (c.fact 88) (c.fact 164) (c.def_ (d := fn__law_every_tags) 65) (fun _ _ _ _ _ _ us hl => match us, hl with | [_], _ => rfl)
  obtain ⟨d__law_are_lot⟩ := dT (x := "_law_are_lot") (st := st__law_are_lot) (ps := ["_law_book", "_law_data_here", "_law_tags"]) X G (c.fact 89) (c.fact 165) (c.def_ (d := fn__law_are_lot) 66) (fun _ _ _ _ _ _ us hl => match us, hl with | [_, _, _], _ => rfl)
  obtain ⟨d__law_greatest⟩ := dT (x := "_law_greatest") (st := st__law_greatest) (ps := ["_law_book", "_law_data_here"]) X G (c.fact 90) (c.fact 166) (c.def_ (d := fn__law_greatest) 67) (fun _ _ _ _ _ _ us hl => match us, hl with | [_, _], _ => rfl)
  obtain ⟨d__law_heard⟩ := dT (x := "_law_heard") (st := st__law_heard) (ps := ["_law_call"]) X G (c.fact 91) (c.fact 167) (c.def_ (d := fn__law_heard) 68) (fun _ _ _ _ _ _ us hl => match us, hl with | [_], _ => rfl)
  obtain ⟨d__law_is_right⟩ := dT (x := "_law_is_right") (st := st__law_is_right) (ps := ["_law_book", "_law_data_here", "_law_due"]) X G (c.fact 92) (c.fact 168) (c.def_ (d := fn__law_is_right) 69) (fun _ _ _ _ _ _ us hl => match us, hl with | [_, _, _], _ => rfl)
  obtain ⟨d__law_bent_right⟩ := dT (x := "_law_bent_right") (st := st__law_bent_right) (ps := ["_law_jar", "_law_book", "_law_data_here", "_law_due"]) X G (c.fact 93) (c.fact 169) (c.def_ (d := fn__law_bent_right) 70) (fun _ _ _ _ _ _ us hl => match us, hl with | [_, _, _, _], _ => rfl)
  obtain ⟨d_law⟩ := dT (x := "law") (st := st_law) (ps := ["_law_script"]) X G (c.fact 94) (c.fact 170) (c.def_ (d := fn_law) 71) (fun _ _ _ _ _ _ us hl => match us, hl with | [_], _ => rfl)
  obtain ⟨t_MOST_COLUMNS, c_MOST_COLUMNS⟩ := He.int_ok X G (c.fact 17)
  obtain ⟨t_MOST_IN_SCHEME, c_MOST_IN_SCHEME⟩ := He.int_ok X G (c.fact 18)
  obtain ⟨t_MOST_SOURCES, c_MOST_SOURCES⟩ := He.int_ok X G (c.fact 19)
  obtain ⟨t_MOST_WORTH, c_MOST_WORTH⟩ := He.int_ok X G (c.fact 20)
  obtain ⟨t_MOST_ROWS, c_MOST_ROWS⟩ := He.int_ok X G (c.fact 21)
  obtain ⟨t_MOST_LOTS, c_MOST_LOTS⟩ := He.int_ok X G (c.fact 22)
  obtain ⟨m_init_fd, m_init_F⟩ := fT (st := st_Fits_init) (m := "__init__") (q := "Fits.__init__") (c.fact 176) (c.def_ (d := fn_Fits_init) 72)
  obtain ⟨m_rows_fd, m_rows_F⟩ := fT (st := st_Fits_rows) (m := "rows") (q := "Fits.rows") (c.fact 177) (c.def_ (d := fn_Fits_rows) 73)
  obtain ⟨m_hold_fd, m_hold_F⟩ := fT (st := st_Fits_hold) (m := "hold") (q := "Fits.hold") (c.fact 178) (c.def_ (d := fn_Fits_hold) 74)
  obtain ⟨m_fits_all_fd, m_fits_all_F⟩ := fT (st := st_Fits_fits_all) (m := "fits_all") (q := "Fits.fits_all") (c.fact 179) (c.def_ (d := fn_Fits_fits_all) 75)
  obtain ⟨m_fitting_fd, m_fitting_F⟩ := fT (st := st_Fits_fitting) (m := "fitting") (q := "Fits.fitting") (c.fact 180) (c.def_ (d := fn_Fits_fitting) 76)
  obtain ⟨m_greatest_fd, m_greatest_F⟩ := fT (st := st_Fits_greatest) (m := "greatest") (q := "Fits.greatest") (c.fact 181) (c.def_ (d := fn_Fits_greatest) 77)
  obtain ⟨m_piece_fd, m_piece_F⟩ := fT (st := st_Fits_piece) (m := "piece") (q := "Fits.piece") (c.fact 182) (c.def_ (d := fn_Fits_piece) 78)
  obtain ⟨m_fits_row_fd, m_fits_row_F⟩ := fT (st := st_Fits_fits_row) (m := "fits_row") (q := "Fits.fits_row") (c.fact 183) (c.def_ (d := fn_Fits_fits_row) 79)
  obtain ⟨m_rows_beside_fd, m_rows_beside_F⟩ := fT (st := st_Fits_rows_beside) (m := "rows_beside") (q := "Fits.rows_beside") (c.fact 184) (c.def_ (d := fn_Fits_rows_beside) 80)
  obtain ⟨m_tags_fd, m_tags_F⟩ := fT (st := st_Fits_tags) (m := "tags") (q := "Fits.tags") (c.fact 185) (c.def_ (d := fn_Fits_tags) 81)
  exact ⟨{
    b_len := He.free_ok X G (c.fact 0)
    b_tuple := He.free_ok X G (c.fact 1)
    b_all := He.free_ok X G (c.fact 2)
    b_any := He.free_ok X G (c.fact 3)
    b_isinstance := He.free_ok X G (c.fact 4)
    b_int := He.free_ok X G (c.fact 5)
    b_bool := He.free_ok X G (c.fact 6)
    b_range := He.free_ok X G (c.fact 7)
    b_enumerate := He.free_ok X G (c.fact 8)
    b_zip := He.free_ok X G (c.fact 9)
    b_sorted := He.free_ok X G (c.fact 10)
    b_list := He.free_ok X G (c.fact 11)
    b_dict := He.free_ok X G (c.fact 12)
    b_max := He.free_ok X G (c.fact 13)
    b_min := He.free_ok X G (c.fact 14)
    b_repr := He.free_ok X G (c.fact 15)
    t_MOST_COLUMNS := t_MOST_COLUMNS
    c_MOST_COLUMNS := c_MOST_COLUMNS
    t_MOST_IN_SCHEME := t_MOST_IN_SCHEME
    c_MOST_IN_SCHEME := c_MOST_IN_SCHEME
    t_MOST_SOURCES := t_MOST_SOURCES
    c_MOST_SOURCES := c_MOST_SOURCES
    t_MOST_WORTH := t_MOST_WORTH
    c_MOST_WORTH := c_MOST_WORTH
    t_MOST_ROWS := t_MOST_ROWS
    c_MOST_ROWS := c_MOST_ROWS
    t_MOST_LOTS := t_MOST_LOTS
    c_MOST_LOTS := c_MOST_LOTS
    d_is_whole_number := d_is_whole_number
    d_is_between := d_is_between
    d_is_below := d_is_below
    d_is_rising := d_is_rising
    d_is_scheme := d_is_scheme
    d_has_size := d_has_size
    d_first_wrong := d_first_wrong
    d_made_book := d_made_book
    d_is_book := d_is_book
    d_shared_of := d_shared_of
    d_are_neighbours := d_are_neighbours
    d_is_worth := d_is_worth
    d_is_row := d_is_row
    d_wrong_row := d_wrong_row
    d_wrong_place := d_wrong_place
    d_has_entries := d_has_entries
    d_want_data := d_want_data
    d_is_data := d_is_data
    d_made_data := d_made_data
    d_has_tags_form := d_has_tags_form
    d_lacking := d_lacking
    d_is_tags := d_is_tags
    d_have := d_have
    d_rank := d_rank
    d_in_order := d_in_order
    d_lots_of := d_lots_of
    d_whole_of := d_whole_of
    d_whole := d_whole
    d_is_told_whole := d_is_told_whole
    d_is_whole := d_is_whole
    d_piece_with := d_piece_with
    d_pieces_of := d_pieces_of
    d_hangs_of := d_hangs_of
    d_worth_at := d_worth_at
    d_agree := d_agree
    d_are_lot := d_are_lot
    d_is_lot := d_is_lot
    d_lies_within := d_lies_within
    d_lies_in := d_lies_in
    d__law_pool := d__law_pool
    d__law_take := d__law_take
    d__law_one := d__law_one
    d__law_mixed := d__law_mixed
    d__law_rising := d__law_rising
    d__law_common_columns := d__law_common_columns
    d__law_are_near := d__law_are_near
    d__law_pieces_of := d__law_pieces_of
    d__law_is_hung := d__law_is_hung
    d__law_scheme := d__law_scheme
    d__law_loose_book := d__law_loose_book
    d__law_hung_book := d__law_hung_book
    d__law_fellow_columns := d__law_fellow_columns
    d__law_same_columns := d__law_same_columns
    d__law_called := d__law_called
    d__law_glued := d__law_glued
    d__law_ringless_book := d__law_ringless_book
    d__law_ring_book := d__law_ring_book
    d__law_some_book := d__law_some_book
    d__law_data := d__law_data
    d__law_worth := d__law_worth
    d__law_filled := d__law_filled
    d__law_is_agreed := d__law_is_agreed
    d__law_sort_key := d__law_sort_key
    d__law_in_order := d__law_in_order
    d__law_is_in := d__law_is_in
    d__law_every_tags := d__law_every_tags
    d__law_are_lot := d__law_are_lot
    d__law_greatest := d__law_greatest
    d__law_heard := d__law_heard
    d__law_is_right := d__law_is_right
    d__law_bent_right := d__law_bent_right
    d_law := d_law
    FC := ga K "Fits"
    clF := He.cls_ok (c.fact 171)
    gF := He.glo_ok X G (c.fact 95)
    na_book := He.noat_ok (c.fact 172)
    na_data := He.noat_ok (c.fact 173)
    na_beside := He.noat_ok (c.fact 174)
    na_near := He.noat_ok (c.fact 175)
    m_init_f := _
    m_init_fd := m_init_fd
    m_init_F := m_init_F
    m_init_b := m_init_F.binds (fun _ _ _ _ _ _ us hl => match us, hl with | [_, _, _], _ => rfl)
    mkF := He.mkr_ok (c.fact 186)
    m_rows_f := _
    m_rows_fd := m_rows_fd
    m_rows_F := m_rows_F
    m_rows_b := m_rows_F.binds (fun _ _ _ _ _ _ us hl => match us, hl with | [_], _ => rfl)
    m_rows := He.meth_ok (c.fact 177)
    m_hold_f := _
    m_hold_fd := m_hold_fd
    m_hold_F := m_hold_F
    m_hold_b := m_hold_F.binds (fun _ _ _ _ _ _ us hl => match us, hl with | [_, _, _], _ => rfl)
    m_hold := He.meth_ok (c.fact 178)
    m_fits_all_f := _
    m_fits_all_fd := m_fits_all_fd
    m_fits_all_F := m_fits_all_F
    m_fits_all_b := m_fits_all_F.binds (fun _ _ _ _ _ _ us hl => match us, hl with | [_, _, _], _ => rfl)
    m_fits_all := He.meth_ok (c.fact 179)
    m_fitting_f := _
    m_fitting_fd := m_fitting_fd
    m_fitting_F := m_fitting_F
    m_fitting_b := m_fitting_F.binds (fun _ _ _ _ _ _ us hl => match us, hl with | [_, _, _], _ => rfl)
    m_fitting := He.meth_ok (c.fact 180)
    m_greatest_f := _
    m_greatest_fd := m_greatest_fd
    m_greatest_F := m_greatest_F
    m_greatest_b := m_greatest_F.binds (fun _ _ _ _ _ _ us hl => match us, hl with | [_, _], _ => rfl)
    m_greatest := He.meth_ok (c.fact 181)
    m_piece_f := _
    m_piece_fd := m_piece_fd
    m_piece_F := m_piece_F
    m_piece_b := m_piece_F.binds (fun _ _ _ _ _ _ us hl => match us, hl with | [_, _, _], _ => rfl)
    m_piece := He.meth_ok (c.fact 182)
    m_fits_row_f := _
    m_fits_row_fd := m_fits_row_fd
    m_fits_row_F := m_fits_row_F
    m_fits_row_b := m_fits_row_F.binds (fun _ _ _ _ _ _ us hl => match us, hl with | [_, _, _, _], _ => rfl)
    m_fits_row := He.meth_ok (c.fact 183)
    m_rows_beside_f := _
    m_rows_beside_fd := m_rows_beside_fd
    m_rows_beside_F := m_rows_beside_F
    m_rows_beside_b := m_rows_beside_F.binds (fun _ _ _ _ _ _ us hl => match us, hl with | [_, _], _ => rfl)
    m_rows_beside := He.meth_ok (c.fact 184)
    m_tags_f := _
    m_tags_fd := m_tags_fd
    m_tags_F := m_tags_F
    m_tags_b := m_tags_F.binds (fun _ _ _ _ _ _ us hl => match us, hl with | [_, _], _ => rfl)
    m_tags := He.meth_ok (c.fact 185)
  }⟩
/-! ### the two defs that hold lambdas -/
theorem funC_of {K : PySem.W.Frag} {x q : Str} {st : Stmt} {f c : Addr} {fd : FuncData} (F : Fun K x q st f fd) (h : codeOf K f = .ref c) : FunC K x q st f fd c := by
  obtain ⟨oc, od, kV, doc, pm, an, cdv, ct, osl, rfl, lk, hcd⟩ := F.ex
  have e : cdv = .ref c := by
    unfold codeOf at h
    rw [lk] at h
    exact h
  subst e
  exact ⟨oc, od, kV, doc, pm, an, ct, osl, rfl, lk, hcd⟩
abbrev cOf (K : PySem.W.Frag) (x : Str) : Addr := codeA K (ga K x)
abbrev pOf (K : PySem.W.Frag) (x : Str) : Addr := tabA K (cOf K x)
structure TabX (ts : List Addr) (K : PySem.W.Frag) (x : Str) : Prop where
  code : codeOf K (ga K x) = .ref (cOf K x)
  hd : PySem.W.codeHdIn K (cOf K x) (pOf K x) = true
  no : (K.lookup (pOf K x)).isNone = true
  mem : ts.contains (pOf K x) = true
structure TabK (ts : List Addr) (K : PySem.W.Frag) : Prop where
  o : TabX ts K "in_order"
  b : TabX ts K "_law_bent_right"
  ne : (pOf K "in_order" == pOf K "_law_bent_right") = false
/-! ### the errors -/
def oexIn (K : PySem.W.Frag) (C : Addr) : Bool := match K.lookup C with
  | some ⟨.type "type", _, .cls cd, sl⟩ => (match cd.mro, sl.toList with
    | .ref C' :: bm, [_, _, _, _, some (.builtin n), _] => C' == C && (n == "ValueError.__new__" && (!cd.hasDel && (cd.hasDict && PySem.HandSPX.refsVE bm)))
    | _, _ => false)
  | _ => false
theorem oex_obj {K : PySem.W.Frag} {C : Addr} (q : oexIn K C = true) : ∃ nm q N bs bm sn sub ab col dd k0 k1 k2 k3 k5, K.lookup C = some (excClassObj nm q C N bs bm true sn sub ab col dd k0 k1 k2 k3 k5 "ValueError.__new__") ∧ PySem.HandSPX.refsVE bm = true := by
  unfold oexIn at q
  split at q
  · rename_i dd cd sl ho
    split at q
    · rename_i C' bm k0 k1 k2 k3 n k5 hm hs
      simp only [Bool.and_eq_true, beq_iff_eq, Bool.not_eq_true'] at q
      obtain ⟨rfl, rfl, hdel, hdic, ht⟩ := q
      obtain ⟨nm, bs, mro, ns, qn, hd, sn, sub, ab, col, del⟩ := cd
      dsimp only at hm hdel hdic
      subst hm hdel hdic
      have hsl : sl = #[k0, k1, k2, k3, some (.builtin "ValueError.__new__"), k5] := by
        obtain ⟨l⟩ := sl
        simp only at hs
        rw [hs]
      subst hsl
      exact ⟨nm, qn, ns, bs, bm, sn, sub, ab, col, dd, k0, k1, k2, k3, k5, ho, ht⟩
    · cases q
  · cases q
structure ExcK (K : PySem.W.Frag) (D fI C : Addr) : Prop where
  obj : oexIn K C = true
  sa : PySem.W.findIn K (.ref C) "__setattr__" = some (some (.builtin "object.__setattr__"))
  exC : PySem.W.subIn K (.ref C) (.type "BaseException") = some true
  tyC : PySem.W.typeIn K (.ref C) = some (.type "type")
  kC : PySem.W.keepIn K (.ref C) = true
  mro : PySem.W.mroIn K C (.ref D) = some true
  sup : PySem.W.ks_superIn K C D "__init__" = some (some (.builtin "ValueError.__init__"))
  sub : PySem.W.subIn K (.ref C) (.type "ValueError") = some true
  fw : PySem.W.findIn K (.ref C) nmWhat = some none
  ini : PySem.W.findIn K (.ref C) "__init__" = some (some (.ref fI))
  xf : xfB K C = true
theorem ExcK.t {K : PySem.W.Frag} {D fI C : Addr} (e : ExcK K D fI C) : ExcT K D fI C := ⟨⟨oex_obj e.obj, e.sa, e.exC, e.tyC, e.kC⟩, e.mro, e.sup, e.sub, e.fw, e.ini, xfB_ok e.xf⟩
def fileOk (K : PySem.W.Frag) (c : Addr) (f : Str) : Bool := match K.lookup c with
  | some ⟨_, _, .fields vs, _⟩ => (match (vs[2]? : Option Value) with
    | some (.str file _) => f == file
    | _ => false)
  | _ => false
theorem file_of {K : PySem.W.Frag} {c : Addr} {f : Str} (h : fileOk K c f = true) : ∃ (ccl : Value) (cdd : Option Addr) (ccs : Array (Option Value)) (vs : Array Value) (file : Str) (tf : Tok), K.lookup c = some ⟨ccl, cdd, .fields vs, ccs⟩ ∧ vs[2]? = some (.str file tf) ∧ (f == file) = true := by
  unfold fileOk at h
  split at h
  · rename_i a b vs d ho
    split at h
    · rename_i file tf hv
      exact ⟨a, b, d, vs, file, tf, ho, hv, h⟩
    · cases h
  · cases h
def cellOk (K : PySem.W.Frag) (cc D : Addr) : Bool := match K.lookup cc with
  | some ⟨_, _, .cell (some (.ref d)), _⟩ => d == D
  | _ => false
theorem cell_of {K : PySem.W.Frag} {cc D : Addr} (h : cellOk K cc D = true) : ∃ (cl : Value) (cld : Option Addr) (csl : Array (Option Value)), K.lookup cc = some ⟨cl, cld, .cell (some (.ref D)), csl⟩ := by
  unfold cellOk at h
  split at h
  · rename_i a b d e ho
    have q : d = D := by simpa using h
    subst q
    exact ⟨a, b, e, ho⟩
  · cases h
abbrev dK (K : PySem.W.Frag) : Addr := ga K "Refused"
abbrev fIK (K : PySem.W.Frag) : Addr := ma K (dK K) "__init__"
structure ErrK (P : Program) (K : PySem.W.Frag) : Prop where
  init : fnObs K ("Refused", some "__init__") = some (nmInit, PySem.Str.ofString "Refused.__init__", defArgs st_Refused_init, .stmts (defBody st_Refused_init), defScope st_Refused_init, mainGlobals, [(nmClass, cellA K (fIK K))], .none, builtinsNs)
  code : codeOf K (fIK K) = .ref (codeA K (fIK K))
  hcd : PySem.W.codeIn K (.ref (codeA K (fIK K))) (PySem.Str.ofString "Refused.__init__") = true
  file : fileOk K (codeA K (fIK K)) P.main.file = true
  cell : cellOk K (cellA K (fIK K)) (dK K) = true
  cls : PySem.W.isClsIn K (dK K) = true
  top : (P.main.scope.names.lookup (PySem.Str.ofString "super")).isSome = false
  opq : PySem.W.nsIn K cStatics "thirdparty.any" = some none
  ty : PySem.W.typeIn K (.ref (fIK K)) = some (.type "function")
  eB : ExcK K (dK K) (fIK K) (ga K "BadBook")
  eD : ExcK K (dK K) (fIK K) (ga K "BadData")
section
variable {P : Program} {K : PySem.W.Frag} {h : Heap} {mg : Str → Option Value}
theorem err_mk (X : K.In h) (G : h.Ns mainGlobals mg) (c : SaysE faL fnL K) (e : ErrK P K) : Nonempty (ErrT P K mg) := by
  obtain ⟨fd, hfd, hlk⟩ : ∃ fd : FuncData, (∃ (kV doc pm : Value) (an : Option Addr) (ct : Value), fd = PySem.W.fnX nmInit (PySem.Str.ofString "Refused.__init__") (defArgs st_Refused_init) (defBody st_Refused_init) (defScope st_Refused_init) [(nmClass, cellA K (fIK K))] .none kV doc pm an (.ref (codeA K (fIK K))) ct) ∧
      ∃ (oc : Value) (od : Option Addr) (osl : Array (Option Value)), K.lookup (fIK K) = some ⟨oc, od, .func fd, osl⟩ := by
    have h1 := e.init
    have h2 := e.code
    generalize hce : cellA K (fIK K) = ce at h1
    generalize hca : codeA K (fIK K) = ca at h2
    unfold fnObs at h1
    unfold codeOf at h2
    rw [show fAd K (("Refused", some "__init__") : Str × Option Str) = fIK K from rfl] at h1
    split at h1
    · rename_i oc od fd osl ho
      rw [ho] at h2
      obtain ⟨n1, n2, n3, n4, n5, n6, n7, n8, n9, n10, n11, n12, n13, n14, n15⟩ := fd
      simp only [Option.some.injEq, Prod.mk.injEq] at h1
      obtain ⟨g1, g2, g3, g4, g5, g6, g7, g8, g9⟩ := h1
      have h2 : n13 = Value.ref ca := h2
      subst g1 g2 g3 g4 g5 g6 g7 g8 g9 h2
      exact ⟨_, ⟨_, _, _, _, _, rfl⟩, _, _, _, ho⟩
    · cases h1
  obtain ⟨kV, doc, pm, an, ct, efd⟩ := hfd
  obtain ⟨oc, od, osl, ho⟩ := hlk
  obtain ⟨cd, hcd⟩ : ∃ cd, PySem.W.clsIn K (dK K) = some cd := Option.isSome_iff_exists.mp e.cls
  exact ⟨{
    fI := fIK K
    fd := fd
    D := dK K
    cc := cellA K (fIK K)
    c := codeA K (fIK K)
    S := ⟨⟨oc, od, osl, .none, kV, doc, pm, an, ct, efd, ho⟩, e.hcd, file_of e.file, cell_of e.cell, ⟨cd, hcd⟩, e.top, He.free_ok X G (c.fact 16), e.opq, e.ty⟩
    bI := by
      rw [efd]
      exact .all fun us hl => match us, hl with
        | [_, _], _ => rfl
    CB := ga K "BadBook"
    CD := ga K "BadData"
    gB := He.glo_ok X G (c.fact 96)
    gD := He.glo_ok X G (c.fact 97)
    gR := He.glo_ok X G (c.fact 98)
    tB := e.eB.t
    tD := e.eD.t
    mBB := He.exm_ok (c.fact 187)
    mDB := He.exm_ok (c.fact 188)
    mDD := He.exm_ok (c.fact 189) }⟩
theorem glo_at {x : Str} {f : Addr} (X : K.In h) (G : h.Ns mainGlobals mg) (c : (Fa.glo x).ok K = true) (g : mg x = some (.ref f)) : f = ga K x := by
  have e := g.symm.trans (He.glo_ok X G c)
  cases e
  rfl
end
theorem all_mk {l : PySem.W.OpenLaw} {w : World} {K : PySem.W.Frag} {h : Heap} {mg : Str → Option Value} {fa : Addr} {ts : List Addr} (X : K.In h) (G : h.Ns mainGlobals mg) (hfa : mg "law" = some (.ref fa)) (hT : ∀ p ∈ ts, h.get? p = some (PySem.W.tabObj #[]))
    (c : SaysE faL fnL K) (e : ErrK l.prog K) (t : TabK ts K) : LawAtG l w K 14 63 "_law_script" mg fa h := by
  obtain ⟨T⟩ := txt_mk X G c
  obtain ⟨Z⟩ := err_mk X G c e
  have ef : T.d_law.f = fa := by
    have q := T.d_law.g.symm.trans hfa
    cases q
    rfl
  have eO : codeOf K T.d_in_order.f = .ref (cOf K "in_order") := by rw [glo_at X G (c.fact 47) T.d_in_order.g]; exact t.o.code
  have eB : codeOf K T.d__law_bent_right.f = .ref (cOf K "_law_bent_right") := by rw [glo_at X G (c.fact 93) T.d__law_bent_right.g]; exact t.b.code
  have hne : pOf K "in_order" ≠ pOf K "_law_bent_right" := fun z => by
    have q := t.ne
    rw [z] at q
    simp at q
  refine ⟨T.d_law.fd, [(cOf K "in_order", pOf K "in_order"), (cOf K "_law_bent_right", pOf K "_law_bent_right")], LawSp K [(pOf K "in_order", "in_order.<locals>.<lambda>"), (pOf K "_law_bent_right", "_law_bent_right.<locals>.<lambda>")], fun p hp => ?_, fun p hp => ?_, fun p hp => ?_, fun s u => ?_, fun H a ns hl hH hS => ?_, fun base kb gb hb => ?_⟩
  · rcases List.mem_cons.mp hp with z | hp
    · rw [z]; exact hT _ (by simpa using t.o.mem)
    · rw [List.mem_singleton.mp hp]; exact hT _ (by simpa using t.b.mem)
  · rcases List.mem_cons.mp hp with z | hp
    · rw [z]; exact Option.isNone_iff_eq_none.mp t.o.no
    · rw [List.mem_singleton.mp hp]; exact Option.isNone_iff_eq_none.mp t.b.no
  · rcases List.mem_cons.mp hp with z | hp
    · rw [z]; exact PySem.W.codeHd_of_K X t.o.hd
    · rw [List.mem_singleton.mp hp]; exact PySem.W.codeHd_of_K X t.b.hd
  · obtain ⟨oc, od, kV, doc, pm, an, cdv, ct, osl, efd, lk, hcd⟩ := T.d_law.F.ex
    rw [efd]
    exact .of_eq rfl
  · refine ⟨a, ns, rfl, hS, by omega, fun p hp => ?_, fun _ => rfl⟩
    rcases List.mem_cons.mp hp with z | hp
    · rw [z]; exact TabS.nil (hH (cOf K "in_order", pOf K "in_order") (by simp))
    · rw [List.mem_singleton.mp hp]; exact TabS.nil (hH (cOf K "_law_bent_right", pOf K "_law_bent_right") (by simp))
  · let Y : TabT K mg base T := ⟨cOf K "in_order", pOf K "in_order", cOf K "_law_bent_right", pOf K "_law_bent_right", hb (cOf K "in_order", pOf K "in_order") (by simp), hb (cOf K "_law_bent_right", pOf K "_law_bent_right") (by simp), hne, funC_of T.d_in_order.F eO, funC_of T.d__law_bent_right.F eB⟩
    rw [← ef]
    exact ok_law T Y Z
end BB
open PySem PySem.W PyProof.Rows
set_option maxRecDepth 100000 in
set_option maxHeartbeats 0 in
theorem PySem.Challenge.cw_behindboth_k04_the_whole_by_all_tags_holds : PySem.Challenge.rw_behindboth_k04_the_whole_by_all_tags.Holds := by
  w_on; o_law; k_head; (case hw => w_witness2)
  k_fill
  refine BB.walk_top (l := PySem.Challenge.rw_behindboth_k04_the_whole_by_all_tags) (n := 63) (k := 14) (x := "_law_script") rfl (by decide) rfl ⟨rfl, by decide, by decide⟩ (fun w h Y => PySem.W.km_in_of Y) ?F
  case F =>
    intro w mg fa h Y KX G hmg
    refine BB.all_mk KX G hmg (PySem.W.km_tabs_of Y) ?c ?e ?t
    case c =>
      show He.obsE BB.faL BB.fnL _ = He.valE BB.fnL
      kernel_rfl
    case e => exact ⟨by kernel_rfl, by kernel_rfl, by kernel_rfl, by kernel_rfl, by kernel_rfl, by kernel_rfl, by kernel_rfl, by kernel_rfl, by kernel_rfl, ⟨by kernel_rfl, by kernel_rfl, by kernel_rfl, by kernel_rfl, by kernel_rfl, by kernel_rfl, by kernel_rfl, by kernel_rfl, by kernel_rfl, by kernel_rfl, by kernel_rfl⟩, ⟨by kernel_rfl, by kernel_rfl, by kernel_rfl, by kernel_rfl, by kernel_rfl, by kernel_rfl, by kernel_rfl, by kernel_rfl, by kernel_rfl, by kernel_rfl, by kernel_rfl⟩⟩
    case t => exact ⟨⟨by kernel_rfl, by kernel_rfl, by kernel_rfl, by kernel_rfl⟩, ⟨by kernel_rfl, by kernel_rfl, by kernel_rfl, by kernel_rfl⟩, by kernel_rfl⟩
