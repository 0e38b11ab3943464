import PyProof.Rows.All
import Wide.All
import OpenK.AllK
import Wide.FinOn
import HandS.ForMost
import HandS.ForExc
import HandS.IsInst
import KE.KStateDown
import HandS.Defaults
import HandS.HeadHook1
import HandS.HeadHook2
import HandS.HeadHook3
import HandS.Head0
import HandS.Head1
import HandS.Head2
import HandS.HeadHook4
import HandS.ExcInit
import HandS.ExcField
import HandS.ExcIs
import KE.KIsAll
import KE.KTryMore
import KE.KLam
import PyProof.DefCall
import HandS.Lambda
import KE.KSuper
import KE.KExcSuper
import HandS.Star
import HandS.Nested
import HandS.Walk
import HandS.Flow
import HandS.More
import HandS.SlotsOwn
import HandS.OwnEq
import HandS.Zip
import KE.KIntText
import PyProof.Rows.StrOr
import KE.IntTextLaws
import HandS.Codes
import PyProof.SumAny
import PyProof.ListOps
import PyProof.InstEq
import HandS.EndTab
import HandS.HeadWalk
import PySem.Challenge.RW_anytower_k76_texts_of_papers
set_option Elab.async false
set_option linter.all false
set_option maxRecDepth 100000
section -- KData
set_option maxHeartbeats 4000000
/-! What papers are made of, as plain data; how an abstract heap shows it. -/
namespace K6
open PySem PySem.Spec PyProof.Rows L2
/-- data: nothing, a truth value, a number, a text, the empty dict, tuples, lists, papers (class by number, word, parts) -/
inductive Dat where
  | non | bl (b : Bool) | int (i : Int) | str (z : Str) | emp
  | tup (ds : List Dat) | lst (ds : List Dat) | pap (c : Nat) (w : Str) (ds : List Dat)
/-- the attributes of a class's papers beside word and parts -/
abbrev Flds := Nat → List Str
mutual
inductive Rp (ca : Nat → Addr) (fl : Flds) (H : Hp) : V → Dat → Prop
  | non : Rp ca fl H .non .non
  | bl (b : Bool) : Rp ca fl H (.bl b) (.bl b)
  | int (i : Int) : Rp ca fl H (.int i) (.int i)
  | str (z : Str) : Rp ca fl H (.str z) (.str z)
  | emp {a : Addr} (h : H a = some (.dK [])) : Rp ca fl H (.ref a) .emp
  | tup {a : Addr} {vs : List V} {ds : List Dat} (h : H a = some (.tup vs)) (r : Rps ca fl H vs ds) : Rp ca fl H (.ref a) (.tup ds)
  | lst {a : Addr} {vs : List V} {ds : List Dat} (h : H a = some (.lst vs)) (r : Rps ca fl H vs ds) : Rp ca fl H (.ref a) (.lst ds)
  | pap {a dx t : Addr} {c : Nat} {fs : List (Str × V)} {vs : List V} {ds : List Dat} {w : Str} (h : H a = some (.ins (ca c) dx fs)) (hw : fs.lookup ("word" : Str) = some (V.str w)) (hp : fs.lookup ("parts" : Str) = some (V.ref t)) (ht : H t = some (.tup vs))
      (hf : ∀ (i : Nat) (f : Str), (fl c)[i]? = some f → ∃ v, vs[i]? = some v ∧ fs.lookup f = some v) (hm : ∀ (f : Str) (v : V), fs.lookup f = some v → f = ("word" : Str) ∨ f = ("parts" : Str) ∨ f ∈ fl c) (r : Rps ca fl H vs ds) : Rp ca fl H (.ref a) (.pap c w ds)
inductive Rps (ca : Nat → Addr) (fl : Flds) (H : Hp) : List V → List Dat → Prop
  | nil : Rps ca fl H [] []
  | cons {v : V} {d : Dat} {vs : List V} {ds : List Dat} (h : Rp ca fl H v d) (r : Rps ca fl H vs ds) : Rps ca fl H (v :: vs) (d :: ds)
end
section
variable {ca : Nat → Addr} {fl : Flds} {H H' : Hp}
mutual
theorem Rp.mono (e : Same H H') : ∀ {v : V} {d : Dat}, Rp ca fl H v d → Rp ca fl H' v d
  | _, _, .non => .non
  | _, _, .bl b => .bl b
  | _, _, .int i => .int i
  | _, _, .str z => .str z
  | _, _, .emp h => .emp (e _ _ h)
  | _, _, .tup h r => .tup (e _ _ h) (Rps.mono e r)
  | _, _, .lst h r => .lst (e _ _ h) (Rps.mono e r)
  | _, _, .pap h hw hp ht hf hm r => .pap (e _ _ h) hw hp (e _ _ ht) hf hm (Rps.mono e r)
theorem Rps.mono (e : Same H H') : ∀ {vs : List V} {ds : List Dat}, Rps ca fl H vs ds → Rps ca fl H' vs ds
  | _, _, .nil => .nil
  | _, _, .cons h r => .cons (Rp.mono e h) (Rps.mono e r)
end
theorem Rps.len : ∀ {vs : List V} {ds : List Dat}, Rps ca fl H vs ds → vs.length = ds.length
  | _, _, .nil => rfl
  | _, _, .cons _ r => congrArg (· + 1) r.len
theorem Rps.at : ∀ {vs : List V} {ds : List Dat} {i : Nat} {v : V}, Rps ca fl H vs ds → vs[i]? = some v → ∃ d, ds[i]? = some d ∧ Rp ca fl H v d
  | _, _, i, v, .nil, h => by simp at h
  | _, _, 0, v, .cons h r, e => ⟨_, rfl, by
    have e2 := Option.some.inj e
    rw [← e2]
    exact h⟩
  | _, _, i + 1, v, .cons h r, e => Rps.at (i := i) (v := v) r e
theorem Rps.atD : ∀ {vs : List V} {ds : List Dat} {i : Nat} {d : Dat}, Rps ca fl H vs ds → ds[i]? = some d → ∃ v, vs[i]? = some v ∧ Rp ca fl H v d
  | _, _, i, v, .nil, h => by simp at h
  | _, _, 0, v, .cons h r, e => ⟨_, rfl, by
    have e2 := Option.some.inj e
    rw [← e2]
    exact h⟩
  | _, _, i + 1, v, .cons h r, e => Rps.atD (i := i) r e
theorem Rps.snoc : ∀ {vs : List V} {ds : List Dat} {v : V} {d : Dat}, Rps ca fl H vs ds → Rp ca fl H v d → Rps ca fl H (vs ++ [v]) (ds ++ [d])
  | _, _, _, _, .nil, h => .cons h .nil
  | _, _, _, _, .cons h r, q => .cons h (r.snoc q)
theorem Same.new {p : Addr} {o : HO} (n : H p = none) : Same H (upd H p o) := fun b u e => by
  rw [upd_ne (ne_of_none e n)]
  exact e
end
/-! ### sizes -/
mutual
/-- how deep -/
def Dat.dep : Dat → Nat
  | .tup ds => depS ds + 1
  | .lst ds => depS ds + 1
  | .pap _ _ ds => depS ds + 1
  | _ => 0
def depS : List Dat → Nat
  | [] => 0
  | d :: r => max d.dep (depS r)
end
theorem dep_le : ∀ {ds : List Dat} {d : Dat} {i : Nat}, ds[i]? = some d → d.dep ≤ depS ds
  | [], d, i, h => by simp at h
  | e :: r, d, 0, h => by
    have e2 := Option.some.inj h
    rw [← e2]
    unfold depS
    exact Nat.le_max_left _ _
  | e :: r, d, i + 1, h => by
    have z := dep_le (ds := r) (i := i) h
    unfold depS
    exact Nat.le_trans z (Nat.le_max_right _ _)
mutual
/-- lists become tuples -/
def Dat.fix : Dat → Dat
  | .tup ds => .tup (fixS ds)
  | .lst ds => .tup (fixS ds)
  | d => d
def fixS : List Dat → List Dat
  | [] => []
  | d :: r => d.fix :: fixS r
end
theorem fixS_len : ∀ ds : List Dat, (fixS ds).length = ds.length
  | [] => by unfold fixS; rfl
  | d :: r => by unfold fixS; rw [List.length_cons, List.length_cons, fixS_len r]
theorem fixS_at : ∀ {ds : List Dat} {i : Nat} {d : Dat}, ds[i]? = some d → (fixS ds)[i]? = some d.fix
  | [], i, d, h => by simp at h
  | e :: r, 0, d, h => by
    have e2 := Option.some.inj h
    rw [← e2]
    unfold fixS
    rfl
  | e :: r, i + 1, d, h => by
    unfold fixS
    exact fixS_at (ds := r) (i := i) h
mutual
/-- data without lists in tuples stand as they are -/
def Dat.clean : Dat → Bool
  | .tup ds => cleanS ds
  | .lst _ => false
  | _ => true
def cleanS : List Dat → Bool
  | [] => true
  | d :: r => d.clean && cleanS r
end
mutual
theorem fix_clean : ∀ d : Dat, d.clean = true → d.fix = d
  | .non, _ => rfl
  | .bl _, _ => rfl
  | .int _, _ => rfl
  | .str _, _ => rfl
  | .emp, _ => rfl
  | .pap _ _ _, _ => rfl
  | .lst _, h => by cases h
  | .tup ds, h => by
    show Dat.tup (fixS ds) = .tup ds
    rw [fixS_clean ds h]
theorem fixS_clean : ∀ ds : List Dat, cleanS ds = true → fixS ds = ds
  | [], _ => rfl
  | d :: r, h => by
    have h : (d.clean && cleanS r) = true := h
    rw [Bool.and_eq_true] at h
    show d.fix :: fixS r = d :: r
    rw [fix_clean d h.1, fixS_clean r h.2]
end
/-- a number in figures -/
def iStr (i : Int) : Str := (toString i : String)
mutual
/-- its words' signs, one more for each -/
def Dat.sz : Dat → Nat
  | .non => 2
  | .bl _ => 2
  | .int i => (iStr i).length + 1
  | .str z => z.length + 1
  | .emp => 2
  | .tup ds => 4 + szS ds
  | .lst ds => 4 + szS ds
  | .pap _ w ds => 5 + w.length + szS ds
def szS : List Dat → Nat
  | [] => 0
  | d :: r => d.sz + szS r
end
theorem sz_pos (d : Dat) : 1 ≤ d.sz := by
  cases d <;> (unfold Dat.sz; omega)
theorem sz_len : ∀ ds : List Dat, ds.length ≤ szS ds
  | [] => Nat.le_refl _
  | d :: r => by
    have h1 := sz_len r
    have h2 := sz_pos d
    unfold szS
    rw [List.length_cons]
    omega
theorem sz_at : ∀ {ds : List Dat} {i : Nat} {d : Dat}, ds[i]? = some d → d.sz ≤ szS ds
  | [], i, d, h => by simp at h
  | e :: r, 0, d, h => by
    have e2 := Option.some.inj h
    rw [← e2]
    unfold szS
    omega
  | e :: r, i + 1, d, h => by
    have z := sz_at (ds := r) (i := i) h
    unfold szS
    omega
mutual
/-- how many things -/
def Dat.cn : Dat → Nat
  | .tup ds => 1 + cnS ds
  | .lst ds => 1 + cnS ds
  | .pap _ _ ds => 1 + cnS ds
  | _ => 1
def cnS : List Dat → Nat
  | [] => 0
  | d :: r => d.cn + cnS r
end
theorem cn_pos (d : Dat) : 1 ≤ d.cn := by
  cases d <;> (unfold Dat.cn; omega)
theorem cn_len : ∀ ds : List Dat, ds.length ≤ cnS ds
  | [] => Nat.le_refl _
  | d :: r => by
    have h1 := cn_len r
    have h2 := cn_pos d
    unfold cnS
    rw [List.length_cons]
    omega
theorem cn_at : ∀ {ds : List Dat} {i : Nat} {d : Dat}, ds[i]? = some d → d.cn ≤ cnS ds
  | [], i, d, h => by simp at h
  | e :: r, 0, d, h => by
    have e2 := Option.some.inj h
    rw [← e2]
    unfold cnS
    omega
  | e :: r, i + 1, d, h => by
    have z := cn_at (ds := r) (i := i) h
    unfold cnS
    omega
mutual
/-- no list anywhere -/
def Dat.nl : Dat → Bool
  | .tup ds => nlS ds
  | .lst _ => false
  | .pap _ _ ds => nlS ds
  | _ => true
def nlS : List Dat → Bool
  | [] => true
  | d :: r => d.nl && nlS r
end
mutual
/-- the classes are of the table; papers' parts hold no lists -/
def Dat.ok : Dat → Bool
  | .tup ds => okS ds
  | .lst ds => okS ds
  | .pap c _ ds => decide (c < 24) && (nlS ds && okS ds)
  | _ => true
def okS : List Dat → Bool
  | [] => true
  | d :: r => d.ok && okS r
end
theorem okS_at : ∀ {ds : List Dat} {i : Nat} {d : Dat}, okS ds = true → ds[i]? = some d → d.ok = true
  | [], i, d, _, h => by simp at h
  | e :: r, 0, d, o, h => by
    have e2 := Option.some.inj h
    rw [← e2]
    have o : (e.ok && okS r) = true := o
    rw [Bool.and_eq_true] at o
    exact o.1
  | e :: r, i + 1, d, o, h => by
    have o : (e.ok && okS r) = true := o
    rw [Bool.and_eq_true] at o
    exact okS_at (ds := r) (i := i) o.2 h
theorem okS_all : ∀ {ds : List Dat}, (∀ (i : Nat) (d : Dat), ds[i]? = some d → d.ok = true) → okS ds = true
  | [], _ => rfl
  | e :: r, h => by
    show (e.ok && okS r) = true
    rw [Bool.and_eq_true]
    exact ⟨h 0 e rfl, okS_all fun i d q => h (i + 1) d q⟩
theorem nlS_all : ∀ {ds : List Dat}, (∀ (i : Nat) (d : Dat), ds[i]? = some d → d.nl = true) → nlS ds = true
  | [], _ => rfl
  | e :: r, h => by
    show (e.nl && nlS r) = true
    rw [Bool.and_eq_true]
    exact ⟨h 0 e rfl, nlS_all fun i d q => h (i + 1) d q⟩
theorem nlS_at : ∀ {ds : List Dat} {i : Nat} {d : Dat}, nlS ds = true → ds[i]? = some d → d.nl = true
  | [], i, d, _, h => by simp at h
  | e :: r, 0, d, o, h => by
    have e2 := Option.some.inj h
    rw [← e2]
    have o : (e.nl && nlS r) = true := o
    rw [Bool.and_eq_true] at o
    exact o.1
  | e :: r, i + 1, d, o, h => by
    have o : (e.nl && nlS r) = true := o
    rw [Bool.and_eq_true] at o
    exact nlS_at (ds := r) (i := i) o.2 h
mutual
theorem nl_fix : ∀ d : Dat, d.ok = true → d.fix.nl = true
  | .non, _ => rfl
  | .bl _, _ => rfl
  | .int _, _ => rfl
  | .str _, _ => rfl
  | .emp, _ => rfl
  | .pap c _ ds, h => by
    have h : (decide (c < 24) && (nlS ds && okS ds)) = true := h
    rw [Bool.and_eq_true, Bool.and_eq_true] at h
    exact h.2.1
  | .lst ds, h => nlS_fix ds h
  | .tup ds, h => nlS_fix ds h
theorem nlS_fix : ∀ ds : List Dat, okS ds = true → nlS (fixS ds) = true
  | [], _ => rfl
  | d :: r, h => by
    have h : (d.ok && okS r) = true := h
    rw [Bool.and_eq_true] at h
    show (d.fix.nl && nlS (fixS r)) = true
    rw [Bool.and_eq_true]
    exact ⟨nl_fix d h.1, nlS_fix r h.2⟩
end
mutual
theorem ok_fix : ∀ d : Dat, d.ok = true → d.fix.ok = true
  | .non, _ => rfl
  | .bl _, _ => rfl
  | .int _, _ => rfl
  | .str _, _ => rfl
  | .emp, _ => rfl
  | .pap c _ ds, h => h
  | .lst ds, h => okS_fix ds h
  | .tup ds, h => okS_fix ds h
theorem okS_fix : ∀ ds : List Dat, okS ds = true → okS (fixS ds) = true
  | [], _ => rfl
  | d :: r, h => by
    have h : (d.ok && okS r) = true := h
    rw [Bool.and_eq_true] at h
    show (d.fix.ok && okS (fixS r)) = true
    rw [Bool.and_eq_true]
    exact ⟨ok_fix d h.1, okS_fix r h.2⟩
end
section
variable {ca : Nat → Addr} {fl : Flds} {H : Hp} {D : Addr} {acc acc' : List V}
mutual
/-- what holds no list does not see a list change -/
theorem Rp.but (hD : H D = some (.lst acc)) : ∀ {v : V} {d : Dat}, d.nl = true → Rp ca fl H v d → Rp ca fl (upd H D (.lst acc')) v d
  | _, _, _, .non => .non
  | _, _, _, .bl b => .bl b
  | _, _, _, .int i => .int i
  | _, _, _, .str z => .str z
  | _, _, _, .emp h => .emp (by rw [upd_ne (ne_of h hD (by intro z; cases z))]; exact h)
  | _, _, n, .tup h r => .tup (by rw [upd_ne (ne_of h hD (by intro z; cases z))]; exact h) (Rps.but hD n r)
  | _, _, n, .lst h r => by cases n
  | _, _, n, .pap h hw hp ht hf hm r => .pap (by rw [upd_ne (ne_of h hD (by intro z; cases z))]; exact h) hw hp (by rw [upd_ne (ne_of ht hD (by intro z; cases z))]; exact ht) hf hm (Rps.but hD n r)
theorem Rps.but (hD : H D = some (.lst acc)) : ∀ {vs : List V} {ds : List Dat}, nlS ds = true → Rps ca fl H vs ds → Rps ca fl (upd H D (.lst acc')) vs ds
  | _, _, _, .nil => .nil
  | _, _, n, .cons h r => by
    have n := n
    unfold nlS at n
    rw [Bool.and_eq_true] at n
    exact .cons (Rp.but hD n.1 h) (Rps.but hD n.2 r)
end
end
/-- all but what stands at x is as it was -/
def SameBut (x : Addr) (H H' : Hp) : Prop := ∀ b o, b ≠ x → H b = some o → H' b = some o
theorem Same.but {x : Addr} {H H' : Hp} (h : Same H H') : SameBut x H H' := fun b o _ e => h b o e
theorem SameBut.upd {x : Addr} {H : Hp} {o : HO} : SameBut x H (upd H x o) := fun b u hb e => by
  rw [upd_ne hb]
  exact e
theorem SameBut.trans {x : Addr} {H H1 H2 : Hp} (a : SameBut x H H1) (b : SameBut x H1 H2) : SameBut x H H2 := fun c o hc e => b c o hc (a c o hc e)
section
variable {ca : Nat → Addr} {fl : Flds} {H : Hp} {x C dx : Addr} {fs : List (Str × V)} {o : HO}
mutual
/-- an instance that has no parts yet is seen by no data -/
theorem Rp.butI (hx : H x = some (.ins C dx fs)) (hn : fs.lookup ("parts" : Str) = none) : ∀ {v : V} {d : Dat}, Rp ca fl H v d → Rp ca fl (upd H x o) v d
  | _, _, .non => .non
  | _, _, .bl b => .bl b
  | _, _, .int i => .int i
  | _, _, .str z => .str z
  | _, _, .emp h => .emp (by rw [upd_ne (ne_of h hx (by intro z; cases z))]; exact h)
  | _, _, .tup h r => .tup (by rw [upd_ne (ne_of h hx (by intro z; cases z))]; exact h) (Rps.butI hx hn r)
  | _, _, .lst h r => .lst (by rw [upd_ne (ne_of h hx (by intro z; cases z))]; exact h) (Rps.butI hx hn r)
  | _, _, .pap h hw hp ht hf hm r => .pap (by
      rw [upd_ne (fun e => by
        rw [e, hx] at h
        cases h
        rw [hn] at hp
        cases hp)]
      exact h) hw hp (by rw [upd_ne (ne_of ht hx (by intro z; cases z))]; exact ht) hf hm (Rps.butI hx hn r)
theorem Rps.butI (hx : H x = some (.ins C dx fs)) (hn : fs.lookup ("parts" : Str) = none) : ∀ {vs : List V} {ds : List Dat}, Rps ca fl H vs ds → Rps ca fl (upd H x o) vs ds
  | _, _, .nil => .nil
  | _, _, .cons h r => .cons (Rp.butI hx hn h) (Rps.butI hx hn r)
end
end
section
variable {ca : Nat → Addr} {fl : Flds} {H : Hp}
theorem Rps.of : ∀ {vs : List V} {ds : List Dat}, vs.length = ds.length → (∀ (i : Nat) (v : V), vs[i]? = some v → ∃ d, ds[i]? = some d ∧ Rp ca fl H v d) → Rps ca fl H vs ds
  | [], [], _, _ => .nil
  | [], _ :: _, h, _ => by simp at h
  | _ :: _, [], h, _ => by simp at h
  | v :: vs, d :: ds, h, k => .cons (by
      obtain ⟨d2, e, r⟩ := k 0 v rfl
      have e2 := Option.some.inj e
      rw [e2]
      exact r) (Rps.of (by simpa using h) fun i v q => k (i + 1) v q)
end
end K6
end
section -- KTxt
set_option maxHeartbeats 4000000
/-! The program's text by places; what the walks lean on of what its top leaves. -/
namespace K6
open PySem PySem.Spec PyProof.Rows L2
abbrev top (i : Nat) : Stmt := PySem.Challenge.pw_anytower_k76_texts_of_papers.main.body.getD i (.Pass ⟨0, 0, 0, 0⟩)
/-! ### the papers' classes by number -/
def cnames : List Str := ["Paper", "Denial", "Alike", "Apart", "Bounded", "Deal", "Every", "Fallen", "Falls", "Grows", "Lack", "Lots", "Mean", "Played", "Repeated", "Safe", "Same", "Series", "Short", "Stands", "Sure", "Unlike", "Unsure", "Worth"]
def cflds : List (List Str) := [[], [], ["lacks"], ["kind", "lacks"], ["most", "told", "partings", "rows"], ["trees"], ["rows"], ["told", "groups"], ["rows"], ["before", "again", "after", "partings"], ["number", "groups", "rods", "trees"], ["least", "greatest"],
  ["top", "bottom", "rows", "before", "again", "after", "partings"], ["laid", "picks", "place", "end"], ["first", "period", "step", "lacks", "window", "steps"], ["rows"], ["rows"], ["top", "bottom"], ["groups"], ["rows"], ["rows"], ["told"], ["rows"], ["price", "rows", "others"]]
def fl : Flds := fun c => cflds.getD c []
/-- the classes of Denial -/
def den (c : Nat) : Bool := [1, 3, 7, 8, 9, 18, 21, 22].contains c
def ca (K : PySem.W.Frag) (c : Nat) : Addr := He.ga K (cnames.getD c "Paper")
/-- the words, each with its number of parts, in order -/
def counts : List (Str × Nat) := [("alike", 1), ("apart", 2), ("bounded", 4), ("deal", 1), ("every", 1), ("fallen", 2), ("falls", 1), ("grows", 4), ("lack", 4), ("lots", 2), ("mean", 7), ("played", 4), ("repeated", 6), ("safe", 1), ("same", 1), ("series", 2), ("short", 1), ("stands", 1), ("sure", 1), ("unlike", 1), ("unsure", 1), ("worth", 3)]
/-! ### names -/
def errs : List Str := ["TooMany", "BadText", "BadWord", "BadName", "NoName", "Nothing", "BadValue", "BadNumber", "BadKind", "BadKit", "BadTower", "BadFrame", "BadPlan", "BadSite", "BadPaper", "Misfit"]
def imeths : List Str := ["stop", "ahead", "take", "take_word", "take_paper", "take_item", "take_deep"]
def gls0 : List Str := ["is_integer", "is_name", "TowerError", "BadValue", "BadNumber", "BadName", "NoName", "BadKind", "BadKit", "BadTower", "BadFrame", "BadPlan", "BadSite", "BadPaper", "BadText", "BadWord", "Misfit", "Nothing", "TooMany", "fixed", "is_like", "Paper", "Denial", "Lack", "Alike"]
def gls1 : List Str := ["Apart", "Bounded", "Grows", "Deal", "Short", "Stands", "Every", "Fallen", "Sure", "Unsure", "Lots", "Mean", "Safe", "Falls", "Played", "Repeated", "Same", "Unlike", "Series", "Worth", "COUNTS", "of_towers", "of_games", "of_heights", "of_sites"]
def gls2 : List Str := ["parts_count", "made", "has_text", "words_of", "is_written", "Items", "take_whole", "paper_text", "read_paper", "_law_pen", "_law_draw", "_law_pick", "_law_at_heard", "_law_counts", "_law_value", "_law_bent_right", "law"]
def gls : List Str := gls0 ++ gls1 ++ gls2
def frees : List Str := ["isinstance", "int", "bool", "str", "list", "tuple", "len", "all", "zip", "abs", "sum", "range", "repr", "super"]
def kStrs : List (Str × Str) := [("LETTERS", "abcdefghijklmnopqrstuvwxyz"), ("SIGNS", "abcdefghijklmnopqrstuvwxyz0123456789"), ("FIGURES", "0123456789")]
def kInts : List (Str × Int) := [("MOST_SIGNS", 8), ("MOST_DEEP", 20), ("MOST_FIGURES", 4000), ("LITTLE", 10 ^ 60)]
/-! ### a class of papers -/
structure PC (K : PySem.W.Frag) (c : Nat) : Prop where
  cls : Cls K (ca K c)
  noW : NoAttr K (ca K c) "word"
  noP : NoAttr K (ca K c) "parts"
  noF : ∀ f ∈ fl c, NoAttr K (ca K c) f
  ha : PySem.W.findIn K (.ref (ca K c)) "__class__" = some (some (.builtin "object.__class__"))
  ht : PySem.W.takesIn K (.builtin "object.__class__") = some true
  hn : PySem.W.specialIn K (.builtin "object.__class__") "__get__" = some (some (.builtin "getset_descriptor.__get__"))
  hm : PySem.W.mroIn K (ca K c) (.type "object") = some true
  bo : PySem.W.findIn K (.ref (ca K c)) "__bool__" = some (some (.ref (He.ma K (ca K (if den c then 1 else 0)) "__bool__")))
  eq : PySem.W.findIn K (.ref (ca K c)) "__eq__" = some (some (.ref (He.ma K (ca K 0) "__eq__")))
  kB : ∀ n ∈ (["int", "bool", "str", "list", "tuple"] : List String), PySem.W.kitOne K (.ref (ca K c)) (.type n) = some false
  kP : PySem.W.kitOne K (.ref (ca K c)) (.ref (ca K 0)) = some true
  kD : PySem.W.kitOne K (.ref (ca K c)) (.ref (ca K 1)) = some (den c)
structure Txt (w : World) (K : PySem.W.Frag) (mg : Str → Option Value) : Prop where
  g : ∀ x : Str, x ∈ gls → mg x = some (.ref (He.ga K x))
  z : ∀ x : Str, x ∈ frees → mg x = none
  s : ∀ (x y : Str), (x, y) ∈ kStrs → ∃ t, mg x = some (.str y t)
  i : ∀ (x : Str) (n : Int), (x, n) ∈ kInts → ∃ t, mg x = some (.int n t)
  p : ∀ c : Nat, c < 24 → PC K c
  b0 : PySem.W.isFn K (.ref (He.ma K (ca K 0) "__bool__")) = true
  b1 : PySem.W.isFn K (.ref (He.ma K (ca K 1) "__bool__")) = true
  e0 : PySem.W.isFn K (.ref (He.ma K (ca K 0) "__eq__")) = true
  dg : PySem.W.nsIn K cStatics "sys.int_max_str_digits" = some none
  cD : ∃ es n, KDict K w (He.ga K "COUNTS") es n
  cV : ∀ (z : Str) (n : Nat), counts.lookup z = some n → ∃ t, PySem.W.nsIn K (He.ga K "COUNTS") z = some (some (.int n t))
  cN : ∀ z : Str, counts.lookup z = none → PySem.W.nsIn K (He.ga K "COUNTS") z = some none
  /-- no built-in's values are papers -/
  kP : ∀ n ∈ (["NoneType", "int", "bool", "str", "list", "tuple", "dict"] : List String), PySem.W.kitOne K (.type n) (.ref (ca K 0)) = some false
/-! ### data's types -/
abbrev RpK (K : PySem.W.Frag) : Hp → V → Dat → Prop := Rp (ca K) fl
abbrev RpsK (K : PySem.W.Frag) : Hp → List V → List Dat → Prop := Rps (ca K) fl
/-- a value's type -/
def tyD (K : PySem.W.Frag) : Dat → Value
  | .non => .type "NoneType"
  | .bl _ => .type "bool"
  | .int _ => .type "int"
  | .str _ => .type "str"
  | .emp => .type "dict"
  | .tup _ => .type "tuple"
  | .lst _ => .type "list"
  | .pap c _ _ => .ref (ca K c)
/-- the papers' classes are of the table -/
def Dat.okc : Dat → Bool
  | .pap c _ _ => decide (c < 24)
  | _ => true
theorem okc_of {d : Dat} (h : d.ok = true) : d.okc = true := by
  cases d with
  | pap c w ds =>
    have h : (decide (c < 24) && (nlS ds && okS ds)) = true := h
    rw [Bool.and_eq_true] at h
    exact h.1
  | _ => rfl
section
variable {w : World} {K : PySem.W.Frag} {mg : Str → Option Value} {H : Hp} {v : V} {d : Dat}
theorem ty_of (T : Txt w K mg) (r : RpK K H v d) (hc : d.okc = true) : TyX K H v (tyD K d) := by
  cases r with
  | non => exact .base .non
  | bl b => exact .base (.bl b)
  | int i => exact .base (.int i)
  | str z => exact .base (.str z)
  | emp h => exact .base (.dK h)
  | tup h r => exact .base (.tup h)
  | lst h r => exact .base (.lst h)
  | pap h hw hp ht hf hm r =>
    have p := T.p _ (of_decide_eq_true hc)
    exact .base (.ins h p.cls p.ha p.hn p.ht p.hm)
/-- isinstance(v, T), T built in -/
def tyN : Dat → String
  | .non => "NoneType"
  | .bl _ => "bool"
  | .int _ => "int"
  | .str _ => "str"
  | .emp => "dict"
  | .tup _ => "tuple"
  | .lst _ => "list"
  | .pap _ _ _ => "Paper"
def isN (a n : String) : Bool := a == n || (a == "bool" && n == "int")
abbrev isB (n : String) (d : Dat) : Bool := isN (tyN d) n
theorem isN_ok : ∀ a ∈ (["NoneType", "bool", "int", "str", "dict", "tuple", "list"] : List String), ∀ n ∈ (["int", "bool", "str", "list", "tuple"] : List String), kitB a n = some (isN a n) := by decide +kernel
theorem kit_B (T : Txt w K mg) (hc : d.okc = true) {n : String} (hn : n ∈ (["int", "bool", "str", "list", "tuple"] : List String)) : PySem.W.kitOne K (tyD K d) (.type n) = some (isB n d) := by
  cases d with
  | pap c w ds =>
    have e : isB n (.pap c w ds) = false := by
      simp only [List.mem_cons, List.not_mem_nil, or_false] at hn
      show isN "Paper" n = false
      rcases hn with rfl | rfl | rfl | rfl | rfl <;> decide +kernel
    rw [e]
    exact (T.p _ (of_decide_eq_true hc)).kB n hn
  | _ => exact kit_ty (isN_ok _ (by simp [tyN]) n hn)
def isP : Dat → Bool
  | .pap _ _ _ => true
  | _ => false
theorem kit_P (T : Txt w K mg) (hc : d.okc = true) : PySem.W.kitOne K (tyD K d) (.ref (ca K 0)) = some (isP d) := by
  cases d with
  | pap c w ds => exact (T.p _ (of_decide_eq_true hc)).kP
  | _ => exact T.kP _ (by simp)
/-- isinstance(e, T) -/
theorem isi_B (T : Txt w K mg) (r : RpK K H v d) (hc : d.okc = true) {n : String} (hn : n ∈ (["int", "bool", "str", "list", "tuple"] : List String)) {Q : VK} (q : Q (.bl (isB n d)) H) : rIsi K [v, .ty n] H Q :=
  ⟨_, _, _, _, _, rfl, .ty n, ty_of T r hc, kit_B T hc hn, q⟩
theorem isi_P (T : Txt w K mg) (r : RpK K H v d) (hc : d.okc = true) {Q : VK} (q : Q (.bl (isP d)) H) : rIsi K [v, .ref (ca K 0)] H Q :=
  ⟨_, _, _, _, _, rfl, .own _, ty_of T r hc, kit_P T hc, q⟩
end
end K6
end
section -- KHk
set_option maxHeartbeats 2000000
/-! What the head tells: a Hook over an own list of addresses. -/
namespace K6
open PySem PySem.Spec PyProof.Rows L2
/-! ### addresses by names -/
def nsV (g : Addr → Option Obj) (ns : Addr) (x : Str) : Addr := match g ns with
  | some ⟨_, _, .dict es _, _⟩ => (match es.toList.find? (·.key.isStr x) with
    | some e => (match e.val with
      | .ref a => a
      | _ => 0)
    | none => 0)
  | _ => 0
/-- what a class, a def names: its dict; its code and cells -/
def step1 (g : Addr → Option Obj) (a : Addr) : List Addr := match g a with
  | some ⟨_, _, .cls cd, _⟩ => [cd.ns]
  | some ⟨_, _, .func fd, _⟩ => (match fd.code with
    | .ref c => [c]
    | _ => []) ++ fd.closure.map (·.2)
  | _ => []
/-- what a class's dict holds -/
def step2 (g : Addr → Option Obj) (a : Addr) : List Addr := match g a with
  | some ⟨_, _, .dict es _, _⟩ => es.toList.flatMap fun e => match e.val with
    | .ref b => [b]
    | _ => []
  | _ => []
def clsNames : List Str := (["TowerError", "BadValue", "BadNumber", "BadName", "NoName", "BadKind", "BadKit", "BadTower", "BadFrame", "BadPlan", "BadSite", "BadPaper", "BadText", "BadWord", "Misfit", "Nothing", "TooMany", "Items"] : List Str) ++ cnames
def defNames : List Str := ["is_integer", "is_name", "fixed", "is_like", "of_towers", "of_games", "of_heights", "of_sites", "parts_count", "made", "has_text", "words_of", "is_written", "take_whole", "paper_text", "read_paper", "_law_pen", "_law_draw", "_law_pick", "_law_at_heard", "_law_counts", "_law_value", "_law_bent_right", "law"]
def asH (g : Addr → Option Obj) : List Addr :=
  let cs := clsNames.map (nsV g mainGlobals)
  let ns := cs.flatMap (step1 g)
  let ms := ns.flatMap (step2 g)
  let ds := defNames.map (nsV g mainGlobals)
  [mainGlobals, cStatics, nsV g mainGlobals "COUNTS"] ++ cs ++ ns ++ ms ++ ds ++ (ms ++ ds).flatMap (step1 g)
/-! ### a def with a cell -/
abbrev FnC : Type := Option (Str × Str × Arguments × FuncBody × Scope × Addr × Addr)
def fnC (K : PySem.W.Frag) (a : Addr) : FnC := match K.lookup a with
  | some ⟨_, _, .func fd, _⟩ => some (fd.name, fd.qualname, fd.params, fd.body, fd.scope, fd.globals, fd.builtins)
  | _ => none
/-- a class's method with the cell __class__: the class's name, the method's, its qualified name, its text -/
structure DefC where
  cls : Str
  m : Str
  qual : Str
  st : Stmt
def DefC.val (d : DefC) : FnC := some (d.m, d.qual, defArgs d.st, .stmts (defBody d.st), defScope d.st, mainGlobals, builtinsNs)
def DefC.at_ (K : PySem.W.Frag) (d : DefC) : Addr := He.ma K (He.ga K d.cls) d.m
def fileN : Str := PySem.Challenge.pw_anytower_k76_texts_of_papers.main.file
def noneV : Value → Bool
  | .none => true
  | _ => false
theorem noneV_ok : ∀ {v : Value}, noneV v = true → v = .none
  | .none, _ => rfl
def cellB (K : PySem.W.Frag) (C cc : Addr) : Bool := match K.lookup cc with
  | some ⟨_, _, .cell (some (.ref D)), _⟩ => decide (D = C)
  | _ => false
theorem cellB_ok {K : PySem.W.Frag} {C cc : Addr} (h : cellB K C cc = true) : ∃ cl cld csl, K.lookup cc = some ⟨cl, cld, .cell (some (.ref C)), csl⟩ := by
  unfold cellB at h
  split at h
  · rename_i c1 c2 D c4 q
    rw [of_decide_eq_true h] at q
    exact ⟨_, _, _, q⟩
  · cases h
def fileB (K : PySem.W.Frag) (cda : Addr) : Bool := match K.lookup cda with
  | some ⟨_, _, .fields vs, _⟩ => (match (vs[2]? : Option Value) with
    | some (.str file _) => fileN == file
    | _ => false)
  | _ => false
theorem fileB_ok {K : PySem.W.Frag} {cda : Addr} (h : fileB K cda = true) : ∃ ccl cdd vs ccs file tf, K.lookup cda = some ⟨ccl, cdd, .fields vs, ccs⟩ ∧ vs[2]? = some (.str file tf) ∧ (fileN == file) = true := by
  unfold fileB at h
  split at h
  · rename_i c1 c2 vs c4 q
    split at h
    · rename_i f t q2
      exact ⟨_, _, _, _, _, _, q, q2, h⟩
    · cases h
  · cases h
def clo1 (K : PySem.W.Frag) (C : Addr) (qual : Str) : Value → List (Str × Addr) → Bool
  | .ref cda, [(x, cc)] => decide (x = "__class__") && (PySem.W.codeIn K (.ref cda) qual && (cellB K C cc && fileB K cda))
  | _, _ => false
theorem clo1_ok {K : PySem.W.Frag} {C : Addr} {qual : Str} : ∀ {v : Value} {l : List (Str × Addr)}, clo1 K C qual v l = true → ∃ cda cc, v = .ref cda ∧ l = [(("__class__" : Str), cc)] ∧ PySem.W.codeIn K (.ref cda) qual = true ∧ cellB K C cc = true ∧ fileB K cda = true
  | .ref cda, [(x, cc)], h => by
    have h : (decide (x = "__class__") && (PySem.W.codeIn K (.ref cda) qual && (cellB K C cc && fileB K cda))) = true := h
    obtain ⟨k1, k2⟩ := He.ba h
    obtain ⟨k2, k3⟩ := He.ba k2
    obtain ⟨k3, k4⟩ := He.ba k3
    exact ⟨cda, cc, rfl, by rw [of_decide_eq_true k1], k2, k3, k4⟩
def cloB (K : PySem.W.Frag) (C a : Addr) (qual : Str) : Bool := match K.lookup a with
  | some ⟨_, _, .func fd, _⟩ => noneV fd.defaults && clo1 K C qual fd.code fd.closure
  | _ => false
theorem cloB_ok {K : PySem.W.Frag} {C a : Addr} {m qual : Str} {ps : Arguments} {bd : List Stmt} {sc : Scope} (e : fnC K a = some (m, qual, ps, .stmts bd, sc, mainGlobals, builtinsNs)) (h : cloB K C a qual = true) :
    ∃ (oc : Value) (od : Option Addr) (kV doc pm : Value) (an : Option Addr) (ct : Value) (osl : Array (Option Value)) (cc cda : Addr),
      K.lookup a = some ⟨oc, od, .func (PySem.W.fnX m qual ps bd sc [("__class__", cc)] .none kV doc pm an (.ref cda) ct), osl⟩ ∧ PySem.W.codeIn K (.ref cda) qual = true ∧
      (∃ cl cld csl, K.lookup cc = some ⟨cl, cld, .cell (some (.ref C)), csl⟩) ∧ ∃ ccl cdd vs ccs file tf, K.lookup cda = some ⟨ccl, cdd, .fields vs, ccs⟩ ∧ vs[2]? = some (.str file tf) ∧ (fileN == file) = true := by
  unfold fnC at e
  unfold cloB at h
  cases q : K.lookup a with
  | none =>
    rw [q] at e
    cases e
  | some o =>
    obtain ⟨oc, od, dt, osl⟩ := o
    rw [q] at e h
    cases dt with
    | func fd =>
      obtain ⟨n1, n2, n3, n4, n5, n6, n7, n8, n9, n10, n11, n12, n13, n14, n15⟩ := fd
      have e2 : (some (n1, n2, n3, n4, n5, n6, n15) : FnC) = some (m, qual, ps, .stmts bd, sc, mainGlobals, builtinsNs) := e
      have h2 : (noneV n8 && clo1 K C qual n13 n7) = true := h
      clear e h
      simp only [Option.some.injEq, Prod.mk.injEq] at e2
      obtain ⟨h1, h2_, h3, h4, h5, h6, h7⟩ := e2
      subst h1 h2_ h3 h4 h5 h6 h7
      obtain ⟨g1, g2⟩ := He.ba h2
      obtain rfl := noneV_ok g1
      obtain ⟨cda, cc, rfl, rfl, k1, k2, k3⟩ := clo1_ok g2
      exact ⟨oc, od, _, _, _, _, _, osl, cc, cda, rfl, k1, cellB_ok k2, fileB_ok k3⟩
    | _ => cases e
/-! ### the Hook -/
abbrev AlH : Type := He.AlT × List FnC × Bool
structure SaysH (fa : List He.Fa) (fn : List He.DefD) (fc : List DefC) (ts : List He.Tab) (tf : List He.Defn) (ex : PySem.W.Frag → Bool) (w : World) (h : Heap) (K : PySem.W.Frag) : Prop where
  t : He.SaysT fa fn ts w K
  c : fc.map (fun d => fnC K (d.at_ K)) = fc.map DefC.val
  more : ex K = true
  hd : ∀ p ∈ tf, PySem.W.codeHdIn K (He.cT K p).1 (He.cT K p).2 = true
  out : ∀ p ∈ tf, K.lookup (He.cT K p).2 = none
  empty : ∀ p ∈ tf, h.get? (He.cT K p).2 = some { cls := .none, data := .fields #[] }
def obsK (fa : List He.Fa) (fn : List He.DefD) (fc : List DefC) (ts : List He.Tab) (tf : List He.Defn) (ex : PySem.W.Frag → Bool) (g : Addr → Option Obj) (K : PySem.W.Frag) : AlH := (He.obsT fa fn ts K, fc.map (fun d => fnC K (d.at_ K)), ex K && He.tabsB g tf K)
def obsH (fa : List He.Fa) (fn : List He.DefD) (fc : List DefC) (ts : List He.Tab) (tf : List He.Defn) (ex : PySem.W.Frag → Bool) (g : Addr → Option Obj) : AlH := obsK fa fn fc ts tf ex g (He.frT g (asH g))
def valH (fn : List He.DefD) (fc : List DefC) (ts : List He.Tab) (w : World) : AlH := (He.valT fn ts w, fc.map DefC.val, true)
theorem saysH_of {fa : List He.Fa} {fn : List He.DefD} {fc : List DefC} {ts : List He.Tab} {tf : List He.Defn} {ex : PySem.W.Frag → Bool} {w : World} {h : Heap} {K : PySem.W.Frag} (hK : K = He.frT h.get? (asH h.get?)) (e : obsK fa fn fc ts tf ex h.get? K = valH fn fc ts w) : SaysH fa fn fc ts tf ex w h K := by
  have e1 : He.obsT fa fn ts K = He.valT fn ts w := congrArg (fun z : AlH => z.1) e
  have e3 : fc.map (fun d => fnC K (d.at_ K)) = fc.map DefC.val := congrArg (fun z : AlH => z.2.1) e
  have e2 : (ex K && He.tabsB h.get? tf K) = true := congrArg (fun z : AlH => z.2.2) e
  obtain ⟨h1, h2⟩ := He.ba e2
  have look : ∀ p ∈ tf, PySem.W.codeHdIn K (He.cT K p).1 (He.cT K p).2 = true ∧ ∃ o, h.get? (He.cT K p).2 = some o ∧ He.emptyTab o = true := fun p hp => by
    obtain ⟨h3, h4⟩ := He.ba (List.all_eq_true.mp h2 p hp)
    cases q : h.get? (He.cT K p).2 with
    | none =>
      rw [q] at h4
      cases h4
    | some o =>
      rw [q] at h4
      exact ⟨h3, o, rfl, h4⟩
  refine ⟨e1, e3, h1, fun p hp => (look p hp).1, fun p hp => ?_, fun p hp => ?_⟩
  · obtain ⟨_, o, q, z⟩ := look p hp
    have k := He.frT_none (as := asH h.get?) q z
    rw [← hK] at k
    exact k
  · obtain ⟨_, o, q, z⟩ := look p hp
    rw [q, He.emptyTab_eq z]
def hookH (fa : List He.Fa) (fn : List He.DefD) (fc : List DefC) (ts : List He.Tab) (tf : List He.Defn) (ex : PySem.W.Frag → Bool) : PySem.W.Hook where
  α := AlH
  obs := fun s => obsH fa fn fc ts tf ex s.heap.get?
  val := fun w => valH fn fc ts w
  says := fun w h => ∃ K : PySem.W.Frag, K.In h ∧ SaysH fa fn fc ts tf ex w h K
  of := fun _ _ e => ⟨_, He.frT_in, saysH_of rfl e⟩
  keeps := fun _ _ _ ⟨K, hK, c⟩ k => ⟨K, PySem.W.Frag.In.keeps hK k, ⟨c.t, c.c, c.more, c.hd, c.out, fun p hp => k _ _ (c.empty p hp)⟩⟩
theorem obsH_eq {fa : List He.Fa} {fn : List He.DefD} {fc : List DefC} {ts : List He.Tab} {tf : List He.Defn} {ex : PySem.W.Frag → Bool} {g : Addr → Option Obj} {s : Shared} (h : ∀ a, g a = s.heap.get? a) : obsH fa fn fc ts tf ex g = (hookH fa fn fc ts tf ex).obs s := by
  have e : g = s.heap.get? := funext h
  rw [e] <;> rfl
/-! ### what is asked -/
def exNames : List Str := ["BadText", "BadPaper"]
/-- a class of papers -/
def pcB (K : PySem.W.Frag) (c : Nat) : Bool :=
  He.eqO (PySem.W.findIn K (.ref (ca K c)) "__class__") (some (some (.builtin "object.__class__"))) && (decide (PySem.W.mroIn K (ca K c) (.type "object") = some true) &&
  (He.eqO (PySem.W.findIn K (.ref (ca K c)) "__bool__") (some (some (.ref (He.ma K (ca K (if den c then 1 else 0)) "__bool__")))) && (He.eqO (PySem.W.findIn K (.ref (ca K c)) "__eq__") (some (some (.ref (He.ma K (ca K 0) "__eq__")))) &&
  ((["int", "bool", "str", "list", "tuple"] : List String).all (fun n => decide (PySem.W.kitOne K (.ref (ca K c)) (.type n) = some false)) && (decide (PySem.W.kitOne K (.ref (ca K c)) (.ref (ca K 0)) = some true) && (decide (PySem.W.kitOne K (.ref (ca K c)) (.ref (ca K 1)) = some (den c)) &&
  He.eqO (PySem.W.findIn K (.ref (ca K c)) "__ne__") (some (some (.builtin "object.__ne__"))))))))) 
/-- a class of papers with its own __init__ -/
def subB (K : PySem.W.Frag) (c : Nat) : Bool :=
  decide (PySem.W.mroIn K (ca K c) (.ref (ca K c)) = some true) && (He.eqO (PySem.W.ks_superIn K (ca K c) (ca K c) "__init__") (some (some (.ref (He.ma K (ca K 0) "__init__")))) && PySem.W.isClsIn K (ca K c))
def oexB (K : PySem.W.Frag) (C : Addr) : Bool := (match K.lookup C with
  | some ⟨.type t, _, .cls cd, sl⟩ => decide (t = "type") && (match cd.mro with
    | .ref C' :: bm => (match sl.toList with
      | [_, _, _, _, some (.builtin n), _] => decide (C' = C) && (decide (n = "ValueError.__new__") && (!cd.hasDel && (cd.hasDict && PySem.HandSPX.refsVE bm)))
      | _ => false)
    | _ => false)
  | _ => false) && (He.eqO (PySem.W.findIn K (.ref C) "__setattr__") (some (some (.builtin "object.__setattr__"))) && (decide (PySem.W.subIn K (.ref C) (.type "BaseException") = some true) && (decide (PySem.W.typeIn K (.ref C) = some (.type "type")) && PySem.W.keepIn K (.ref C))))
/-- a class of errors that is made, raised, caught, looked at -/
def errB (K : PySem.W.Frag) (nm : Str) (fs : List Str) : Bool :=
  oexB K (He.ga K nm) && (decide (PySem.W.mroIn K (He.ga K nm) (.ref (He.ga K nm)) = some true) && (decide (PySem.W.subIn K (.ref (He.ga K nm)) (.type "ValueError") = some true) && (He.eqO (PySem.W.ks_superIn K (He.ga K nm) (He.ga K nm) "__init__") (some (some (.builtin "ValueError.__init__"))) &&
  (He.eqO (PySem.W.findIn K (.ref (He.ga K nm)) "__init__") (some (some (.ref (He.ma K (He.ga K nm) "__init__")))) && (decide (PySem.W.typeIn K (.ref (He.ma K (He.ga K nm) "__init__")) = some (.type "function")) && (fs.all (fun f => He.eqO (PySem.W.findIn K (.ref (He.ga K nm)) f) (some none)) &&
  (xfB K (He.ga K nm) && (He.eqO (PySem.W.findIn K (.ref (He.ga K nm)) "__class__") (some (some (.builtin "object.__class__"))) && (decide (PySem.W.mroIn K (He.ga K nm) (.type "object") = some true) && (decide (PySem.W.exmOne K (.ref (He.ga K nm)) (.ref (He.ga K "TowerError")) = some true) &&
  (errs.all (fun D => decide (PySem.W.kitOne K (.ref (He.ga K nm)) (.ref (He.ga K D)) = some (decide (D = nm)))) && PySem.W.isClsIn K (He.ga K nm))))))))))))
def numB (K : PySem.W.Frag) : Bool := counts.all fun q => match PySem.W.nsIn K (He.ga K "COUNTS") q.1 with
  | some (some (.int i _)) => decide (i = (q.2 : Int))
  | _ => false
def glbB (K : PySem.W.Frag) : Bool :=
  PySem.W.isFn K (.ref (He.ma K (ca K 0) "__bool__")) && (PySem.W.isFn K (.ref (He.ma K (ca K 1) "__bool__")) && (PySem.W.isFn K (.ref (He.ma K (ca K 0) "__eq__")) && (He.eqO (PySem.W.nsIn K cStatics "sys.int_max_str_digits") (some none) && (He.eqO (PySem.W.nsIn K cStatics "thirdparty.any") (some none) &&
  (numB K && ((["NoneType", "int", "bool", "str", "list", "tuple", "dict"] : List String).all (fun n => decide (PySem.W.kitOne K (.type n) (.ref (ca K 0)) = some false)) && (decide (PySem.W.takesIn K (.builtin "object.__class__") = some true) && (He.eqO (PySem.W.specialIn K (.builtin "object.__class__") "__get__") (some (some (.builtin "getset_descriptor.__get__"))) &&
  (decide (PySem.W.kitOne K (.ref (ca K 11)) (.ref (ca K 11)) = some true) && (decide (PySem.W.typeIn K (.ref (He.ma K (ca K 0) "__init__")) = some (.type "function")) && (PySem.W.fnIn K (He.ma K (ca K 0) "__init__") &&
  (PySem.W.makesIn K (ca K 1) && (He.eqO (PySem.W.findIn K (.ref (ca K 1)) "__init__") (some (some (.ref (He.ma K (ca K 0) "__init__")))) && !((He.cT K ("_law_bent_right", none)).2 == (He.cT K ("law", none)).2))))))))))))))
def fcs : List DefC := [⟨"Alike", "__init__", "Alike.__init__", inClass (top 32) 0⟩, ⟨"Apart", "__init__", "Apart.__init__", inClass (top 33) 0⟩, ⟨"Bounded", "__init__", "Bounded.__init__", inClass (top 35) 0⟩, ⟨"Deal", "__init__", "Deal.__init__", inClass (top 38) 0⟩, ⟨"Every", "__init__", "Every.__init__", inClass (top 43) 0⟩, ⟨"Fallen", "__init__", "Fallen.__init__", inClass (top 44) 0⟩,
  ⟨"Falls", "__init__", "Falls.__init__", inClass (top 54) 0⟩, ⟨"Grows", "__init__", "Grows.__init__", inClass (top 36) 0⟩, ⟨"Lack", "__init__", "Lack.__init__", inClass (top 30) 0⟩, ⟨"Lots", "__init__", "Lots.__init__", inClass (top 49) 0⟩, ⟨"Mean", "__init__", "Mean.__init__", inClass (top 51) 0⟩, ⟨"Played", "__init__", "Played.__init__", inClass (top 56) 0⟩,
  ⟨"Repeated", "__init__", "Repeated.__init__", inClass (top 58) 0⟩, ⟨"Safe", "__init__", "Safe.__init__", inClass (top 53) 0⟩, ⟨"Same", "__init__", "Same.__init__", inClass (top 60) 0⟩, ⟨"Series", "__init__", "Series.__init__", inClass (top 63) 0⟩, ⟨"Short", "__init__", "Short.__init__", inClass (top 39) 0⟩, ⟨"Stands", "__init__", "Stands.__init__", inClass (top 41) 0⟩,
  ⟨"Sure", "__init__", "Sure.__init__", inClass (top 46) 0⟩, ⟨"Unlike", "__init__", "Unlike.__init__", inClass (top 61) 0⟩, ⟨"Unsure", "__init__", "Unsure.__init__", inClass (top 47) 0⟩, ⟨"Worth", "__init__", "Worth.__init__", inClass (top 65) 0⟩, ⟨"BadText", "__init__", "BadText.__init__", inClass (top 19) 0⟩, ⟨"BadPaper", "__init__", "BadPaper.__init__", inClass (top 18) 0⟩]
def exH (K : PySem.W.Frag) : Bool := glbB K && ((List.range 24).all (pcB K) && ((List.range 22).all (fun i => subB K (i + 2)) && (errB K "BadText" ["line", "word"] && (errB K "BadPaper" ["part"] && fcs.all fun d => cloB K (He.ga K d.cls) (d.at_ K) d.qual))))
def faH : List He.Fa := gls.map He.Fa.glo ++ (("super" : Str) :: frees).map He.Fa.free ++ kStrs.map (fun q => He.Fa.str q.1 q.2) ++ kInts.map (fun q => He.Fa.int q.1 q.2) ++ (("Items" : Str) :: cnames).map He.Fa.cls ++
  (List.range 24).flatMap (fun c => (("word" : Str) :: "parts" :: fl c).map fun f => He.Fa.noat (cnames.getD c "Paper") f) ++ [He.Fa.noat "Items" "words", He.Fa.noat "Items" "at"] ++ imeths.map (fun m => He.Fa.meth "Items" m) ++ (("Items" : Str) :: cnames).map He.Fa.mkr
def dF (x : Str) (i : Nat) : He.DefD := ⟨(x, none), x, x, defArgs (top i), defBody (top i), defScope (top i), [], []⟩
def dM (c x qual : Str) (i j : Nat) : He.DefD := ⟨(c, some x), x, qual, defArgs (inClass (top i) j), defBody (inClass (top i) j), defScope (inClass (top i) j), [], []⟩
def fnH : List He.DefD := [dF "is_integer" 4, dF "is_name" 5, dF "fixed" 25, dF "is_like" 26, dF "of_towers" 68, dF "of_games" 69, dF "of_heights" 70, dF "of_sites" 71, dF "parts_count" 72, dF "made" 73, dF "has_text" 79, dF "words_of" 80, dF "is_written" 81, dF "take_whole" 83, dF "paper_text" 84, dF "read_paper" 85,
  dF "_law_pen" 87, dF "_law_draw" 88, dF "_law_pick" 89, dF "_law_at_heard" 90, dF "_law_counts" 91, dF "_law_value" 92, dF "_law_bent_right" 93, dF "law" 94,
  dM "Paper" "__init__" "Paper.__init__" 27 0, dM "Paper" "__eq__" "Paper.__eq__" 27 1, dM "Paper" "__bool__" "Paper.__bool__" 27 2, dM "Denial" "__bool__" "Denial.__bool__" 28 0,
  dM "Items" "__init__" "Items.__init__" 82 0, dM "Items" "stop" "Items.stop" 82 1, dM "Items" "ahead" "Items.ahead" 82 2, dM "Items" "take" "Items.take" 82 3, dM "Items" "take_word" "Items.take_word" 82 4, dM "Items" "take_paper" "Items.take_paper" 82 5, dM "Items" "take_item" "Items.take_item" 82 6, dM "Items" "take_deep" "Items.take_deep" 82 7]
def tsH : List He.Tab := [((fun K => He.ga K "COUNTS"), counts.map (·.1))]
def tfH : List He.Defn := [("_law_bent_right", none), ("law", none)]
/-! ### the facts in three lots, each asked by a run of its own -/
theorem obs_join {fa : List He.Fa} {fn : List He.DefD} {fc : List DefC} {ts : List He.Tab} {tf : List He.Defn} {ex : PySem.W.Frag → Bool} {g : Addr → Option Obj} {K : PySem.W.Frag} {w : World} (e1 : obsK fa [] [] ts [] (fun _ => true) g K = valH [] [] ts w)
    (e2 : obsK [] fn [] [] tf (fun _ => true) g K = valH fn [] [] w) (e3 : obsK [] [] fc [] [] ex g K = valH [] fc [] w) : obsK fa fn fc ts tf ex g K = valH fn fc ts w := by
  have a1 : (fa.all (fun f => f.ok K) && true) = true := congrArg (fun z : AlH => z.1.1.1) e1
  have a2 : (ts.map fun t => He.dicW K (t.1 K)) = ts.map fun t => some (He.keysIn w.params t.2) := congrArg (fun z : AlH => z.1.2) e1
  have b1 : (true && fn.all fun d => d.ok K) = true := congrArg (fun z : AlH => z.1.1.1) e2
  have b2 : (fn.map fun d => He.fnW K d.at_) = fn.map He.DefD.val := congrArg (fun z : AlH => z.1.1.2) e2
  have b3 : (true && He.tabsB g tf K) = true := congrArg (fun z : AlH => z.2.2) e2
  have c1 : fc.map (fun d => fnC K (d.at_ K)) = fc.map DefC.val := congrArg (fun z : AlH => z.2.1) e3
  have c2 : (ex K && true) = true := congrArg (fun z : AlH => z.2.2) e3
  rw [Bool.and_true] at a1 c2
  rw [Bool.true_and] at b1 b3
  show (((((fa.all fun f => f.ok K) && fn.all fun d => d.ok K), fn.map fun d => He.fnW K d.at_), ts.map fun t => He.dicW K (t.1 K)), fc.map (fun d => fnC K (d.at_ K)), ex K && He.tabsB g tf K) = (((true, fn.map He.DefD.val), ts.map fun t => some (He.keysIn w.params t.2)), fc.map DefC.val, true)
  rw [a1, a2, b1, b2, b3, c1, c2] <;> rfl
abbrev hk1 : PySem.W.Hook := hookH faH [] [] tsH [] (fun _ => true)
abbrev hk2 : PySem.W.Hook := hookH [] fnH [] [] tfH (fun _ => true)
abbrev hk3 : PySem.W.Hook := hookH [] [] fcs [] [] exH
def ob1 (s : PySem.W.SharedT) : AlH := obsH faH [] [] tsH [] (fun _ => true) (HandSHeadRun.getT s)
def ob2 (s : PySem.W.SharedT) : AlH := obsH [] fnH [] [] tfH (fun _ => true) (HandSHeadRun.getT s)
def ob3 (s : PySem.W.SharedT) : AlH := obsH [] [] fcs [] [] exH (HandSHeadRun.getT s)
abbrev hk : PySem.W.Hook := hookH faH fnH fcs tsH tfH exH
def ob (s : PySem.W.SharedT) : AlH := obsH faH fnH fcs tsH tfH exH (HandSHeadRun.getT s)
theorem run_join {r : PySem.W.OpenRow} {q : Program} {M : Nat} {loose : List PySem.Str} {w : World} (e1 : HandSHeadRun.RunEq r q hk1 ob1 M loose w) (e2 : HandSHeadRun.RunEq r q hk2 ob2 M loose w) (e3 : HandSHeadRun.RunEq r q hk3 ob3 M loose w) : HandSHeadRun.RunEq r q hk ob M loose w := by
  intro os
  obtain ⟨s, hs, z1⟩ := Option.map_eq_some_iff.mp (e1 os)
  have z2 := e2 os
  have z3 := e3 os
  rw [hs] at z2 z3 ⊢
  have y2 := Option.some.inj z2
  have y3 := Option.some.inj z3
  have x1 : ob1 s = hk1.val w := congrArg (fun z => z.2.2) z1
  have x2 : ob2 s = hk2.val w := congrArg (fun z => z.2.2) y2
  have x3 : ob3 s = hk3.val w := congrArg (fun z => z.2.2) y3
  have x : ob s = hk.val w := obs_join x1 x2 x3
  have l1 := congrArg (fun z => z.1) z1
  have l2 := congrArg (fun z => z.2.1) z1
  exact congrArg some (Prod.ext l1 (Prod.ext l2 x))
theorem ob_eq (s : PySem.W.SharedT) : ob s = hk.obs s.abs := obsH_eq (HandSHeadRun.getT_eq s)
end K6
end
section -- KHr
set_option maxHeartbeats 0
/-! The head is run. -/
namespace K6
open PySem PySem.Spec PyProof.Rows L2
abbrev R : PySem.W.OpenRow := PySem.W.OpenLaw.row PySem.Challenge.rw_anytower_k76_texts_of_papers
def loose0 : List PySem.Str := ["__name__", "LETTERS", "SIGNS", "MOST_SIGNS", "is_integer", "is_name", "TowerError", "BadValue", "BadNumber", "BadName", "NoName", "BadKind", "BadKit", "BadTower", "BadFrame", "BadPlan", "BadSite", "BadPaper", "BadText", "BadWord", "Misfit", "Nothing", "TooMany", "fixed", "is_like"]
def loose1 : List PySem.Str := ["Paper", "Denial", "Lack", "Alike", "Apart", "Bounded", "Grows", "Deal", "Short", "Stands", "Every", "Fallen", "Sure", "Unsure", "Lots", "Mean", "Safe", "Falls", "Played", "Repeated", "Same", "Unlike", "Series", "Worth", "COUNTS"]
def loose2 : List PySem.Str := ["of_towers", "of_games", "of_heights", "of_sites", "parts_count", "made", "MOST_DEEP", "MOST_FIGURES", "LITTLE", "FIGURES", "has_text", "words_of", "is_written", "Items", "take_whole", "paper_text", "read_paper", "_law_pen", "_law_draw", "_law_pick", "_law_at_heard", "_law_counts", "_law_value", "_law_bent_right"]
abbrev loose : List PySem.Str := loose0 ++ loose1 ++ loose2
theorem run_f1 (w : World) : HandSHeadRun.RunEq R (PySem.W.view R.prog [94]) hk1 ob1 40000 loose (w.withFollow "special-get-raises" false) := by
  intro os
  kernel_rfl
theorem run_f2 (w : World) : HandSHeadRun.RunEq R (PySem.W.view R.prog [94]) hk2 ob2 40000 loose (w.withFollow "special-get-raises" false) := by
  intro os
  kernel_rfl
theorem run_f3 (w : World) : HandSHeadRun.RunEq R (PySem.W.view R.prog [94]) hk3 ob3 40000 loose (w.withFollow "special-get-raises" false) := by
  intro os
  kernel_rfl
theorem run_t1 (w : World) : HandSHeadRun.RunEq R (PySem.W.view R.prog [94]) hk1 ob1 40000 loose (w.withFollow "special-get-raises" true) := by
  intro os
  kernel_rfl
theorem run_t2 (w : World) : HandSHeadRun.RunEq R (PySem.W.view R.prog [94]) hk2 ob2 40000 loose (w.withFollow "special-get-raises" true) := by
  intro os
  kernel_rfl
theorem run_t3 (w : World) : HandSHeadRun.RunEq R (PySem.W.view R.prog [94]) hk3 ob3 40000 loose (w.withFollow "special-get-raises" true) := by
  intro os
  kernel_rfl
theorem run_f (w : World) : HandSHeadRun.RunEq R (PySem.W.view R.prog [94]) hk ob 40000 loose (w.withFollow "special-get-raises" false) := run_join (run_f1 w) (run_f2 w) (run_f3 w)
theorem run_t (w : World) : HandSHeadRun.RunEq R (PySem.W.view R.prog [94]) hk ob 40000 loose (w.withFollow "special-get-raises" true) := run_join (run_t1 w) (run_t2 w) (run_t3 w)
theorem run (w : World) : HandSHeadRun.RunEq R (PySem.W.view R.prog [94]) hk ob 40000 loose w := PySem.W.byRow2 "special-get-raises" (P := fun w => HandSHeadRun.RunEq R (PySem.W.view R.prog [94]) hk ob 40000 loose w) run_f run_t w
end K6
end
section -- KHeld
set_option maxHeartbeats 4000000
/-! An exception that a name still holds behind the except suite: its object is tracked from then on. -/
namespace PySem.W
open PySem PySem.Spec PySem.Calls PyProof.Rows
section
variable {prog : Program} {w : World} {A : Around} {E : Value → Shared → Prop} {s : Shared} {K : Frag} {x D : Addr} {ox : Obj} {od : Option Obj}
theorem k6_findObj {C : Addr} {name : Str} {a g : Value} (hc : (clsIn K C).isSome = true) (ha : findIn K (.ref C) name = some (some a)) (hg : specialIn K a "__get__" = some (some g)) (ht : takesIn K a = some true) : findObj K C od name = some (.bind g a) := by
  obtain ⟨cd, hc⟩ := Option.isSome_iff_exists.mp hc
  unfold findObj
  rw [hc, Option.bind_some, ha, Option.bind_some]
  simp [hg, ht]
theorem k6_classE {Q : Option Value → Shared → Prop} (C : L2.ExcC K D) (X : K.In s.heap) (I : InstAt s.heap x ox D od) (h : Q (some (.ref D)) { s with toks := s.toks + 1 }) : wpAny (model prog w) A (getAttr? (.ref x) "__class__") Q E s := by
  have hf : findObj K D od "__class__" = some (.bind (.builtin "getset_descriptor.__get__") (.builtin "object.__class__")) := k6_findObj (by obtain ⟨cd, hc, _⟩ := any_some C.hd; rw [hc]; rfl) C.ha C.hn C.ht
  obtain ⟨hp, g, d, t, os⟩ := s
  have L0 := I.type (M := model prog w)
  have L1 := looks_findIn (M := model prog w) X C.hg
  have L2 := looks_findIn (M := model prog w) X C.hk
  have L3 := looks_find (M := model prog w) X I hf
  have sub : Looks (model prog w) hp (isInstance (.ref x) (.type "BaseException")) true := L0.andThen (looks_subIn X C.hs)
  have hx0 : (false && onTheHeap (Value.builtin "BaseException.__getattribute__")) = false := rfl
  have hx2 : (Value.builtin "BaseException.__getattribute__" == Value.builtin "object.__getattribute__") = false := by decide +kernel
  have hx1 : (onTheHeap (Value.ref D) && Value.builtin "BaseException.__getattribute__" == Value.builtin "object.__getattribute__") = false := by
    rw [hx2]
    rfl
  unfold getAttr? getAttrBy? getAttrBy
  refine wpAny_bind (wpAny_mkText (wpAny_bind (wpAny_attempt (wpAny_holding (wpAny_bind (L0.at (wpAny_bind (L1.at ?_))))))))
  show wpAny _ _ (if (onTheHeap (Value.ref D) && Value.builtin "BaseException.__getattribute__" == Value.builtin "object.__getattribute__") = true then _ else _) _ _ _
  rw [hx1, if_neg Bool.false_ne_true]
  unfold getAttrByItsOwn hookBefore
  refine wpAny_bind ?_
  rw [if_pos (show onTheHeap (Value.ref D) = true from rfl)]
  refine L2.at ?_
  refine wpAny_bind (wpAny_attempt (wpAny_holding ?_))
  unfold callGetattribute
  rw [hx0, if_neg Bool.false_ne_true]
  unfold boundAndCalled
  rw [PySem.F.excAttr_ValueError.ga.bind (.ref x)]
  refine wpAny_bind (wpAny_pure ?_)
  show wpAny _ _ (call (.builtin "BaseException.__getattribute__") [.ref x, .str "__class__" t]) _ _ _
  refine wpAny_call (codeAny_call_builtin PySem.F.excAttr_ValueError.ga.plain PySem.F.entry_bexc_ga ?_)
  refine @check_slot (model prog w) _ _ ⟨hp, g, d, t + 1, os⟩ "BaseException.__getattribute__" "BaseException" "__getattribute__" (.ref x) [.str "__class__" t] [] _ (by decide +kernel) (by decide +kernel) sub (PySem.F.args_bexc_ga (.ref x) (.str "__class__" t)) ?_
  unfold Builtin.«object.__getattribute__»
  refine wpAny_bind (wpAny_of_eq (a := ((Value.ref x : Value), [Value.str "__class__" t])) (by first | rfl | (simp only [slotArgs]; rfl)) ?_)
  refine wpAny_bind (wpAny_pure (wpAny_bind (L0.at (wpAny_bind (L3.at ?_)))))
  show wpAny _ _ (holding [Value.builtin "object.__class__"] (call (.builtin "getset_descriptor.__get__") [.builtin "object.__class__", .ref x, .ref D]) >>= ret) _ _ _
  refine wpAny_bind (wpAny_holding (wpAny_call (class_get (s := ⟨hp, g, d, t + 1, os⟩) (ox := ox) (od := od) X I C.hm ?_)))
  refine wpAny_pure ?_
  show wpAny _ _ (handedOut (.ref D)) _ _ _
  rw [handedOut_of (v := .ref D) rfl]
  first
    | exact wpAny_pure (wpAny_pure h)
    | exact wpAny_pure h
    | exact wpAny_pure (wpAny_bind (wpAny_pure (wpAny_pure h)))
theorem k6_kitx (C : L2.ExcC K D) : KitX K (.ref x) (.ref D) (fun h => ∃ ox od, InstAt h x ox D od) where
  ty := fun _ _ _ ⟨_, _, I⟩ => I.type
  it := fun _ _ X _ => by
    obtain ⟨cdD, hcD, _⟩ := any_some C.hd
    unfold clsIn at hcD
    split at hcD
    · rename_i c' d' cd' sl' ho
      intro A' Q' E' s' k q
      unfold isType loadHead
      exact wpAny_bind (wpAny_loadPart (k _ _ (X _ _ ho)) (wpAny_pure q))
    · cases hcD
  ne := fun h tp dd its n sl X htp => by
    obtain ⟨cdD, hcD, _⟩ := any_some C.hd
    refine Bool.eq_false_iff.mpr fun q => ?_
    have e : D = tp := Value.ref.inj (beq_iff_eq.mp q)
    subst e
    unfold clsIn at hcD
    split at hcD
    · rename_i c' d' cd' sl' ho
      have z := (X _ _ ho).symm.trans htp
      cases z
    · cases hcD
  ca := fun X ⟨_, _, I⟩ k => k6_classE C X I k
end
end PySem.W
namespace K6
open PySem PySem.Spec PyProof.Rows L2
/-- at a: an exception of the class at C, its own dict at d -/
def xo (a C d : Addr) : HO := .ext fun h => ∃ oe vs, h.get? a = some oe ∧ oe.cls = .ref C ∧ oe.dict = some d ∧ oe.data = .fields vs
theorem xo_ok {P : Program} {w : World} {H : Hp} {h : Heap} {a C d : Addr} {oe : Obj} {vs : Array Value} (he : h.get? a = some oe) (hz : Zc (.ref C) (some d) oe) (hd : oe.data = .fields vs) : ObjOk P w H h a (xo a C d) :=
  ⟨⟨oe, vs, he, hz.1, hz.2, hd⟩, ⟨_, he⟩, fun h1 h2 ⟨oe, vs, e, q⟩ k => ⟨oe, vs, k _ e, q⟩⟩
theorem xo_at {P : Program} {w : World} {H : Hp} {h : Heap} {a C d : Addr} (hok : HOk P w H h) (e : H a = some (xo a C d)) : ∃ oe vs, h.get? a = some oe ∧ oe.cls = .ref C ∧ oe.dict = some d ∧ oe.data = .fields vs := by
  have x : ObjOk P w H h a (.ext fun h => ∃ oe vs, h.get? a = some oe ∧ oe.cls = .ref C ∧ oe.dict = some d ∧ oe.data = .fields vs) := hok a _ e
  exact x.1
theorem xo_ne_tup {a C d : Addr} {xs : List V} : xo a C d ≠ .tup xs := fun z => by
  have z' : HO.ext _ = HO.tup xs := z
  cases z'
section
variable {X : Cx} {pins : List (Addr × Obj)} {σ : L2.St} {H : Hp} {s : Shared}
/-- the object at a, made behind the entry, is tracked from now on -/
theorem Inv.track {a : Addr} {u : HO} (I : Inv X pins σ H s) (n : H a = none) (nL : a ≠ X.env.locals) (new : X.s_0.heap.get? a = none) (nc : ∀ x c, X.env.cells.lookup x = some c → c ≠ a) (np : ∀ p ∈ X.pn ++ pins, p.1 ≠ a) (ok : ObjOk X.prog X.w (upd H a u) s.heap a u) :
    Inv X pins σ (upd H a u) s := by
  have ne : ∀ b o, X.s_0.heap.get? b = some o → b ≠ a := fun b o e z => by
    rw [z, new] at e
    cases e
  have nn : ∀ b v, H b = some v → b ≠ a := fun b v e z => by
    rw [z, n] at e
    cases e
  refine ⟨I.ok, I.os, I.bare, ⟨I.base.keep, I.base.slot, fun b o e m hx => ?_, I.base.there, fun b xs e => ?_, fun b o xs e => ?_, fun b ps e => ?_⟩, I.loc, I.cell, ?_, fun x c e => ?_, fun p hp => ?_, fun b o e => ?_, I.len⟩
  · rw [upd_ne (ne b o e)]
    exact I.base.free b o e m hx
  · have q := I.base.tups b xs e
    rw [upd_ne (nn b _ q)]
    exact q
  · have q := I.base.frzs b o xs e
    rw [upd_ne (nn b _ q)]
    exact q
  · obtain ⟨more, q⟩ := I.base.tbls b ps e
    exact ⟨more, by rw [upd_ne (nn b _ q)]; exact q⟩
  · rw [upd_ne nL.symm]
    exact I.free
  · rw [upd_ne (nc x c e)]
    exact I.freeC x c e
  · obtain ⟨e, m, r⟩ := I.pin p hp
    exact ⟨e, by rw [upd_ne (np p hp)]; exact m, r⟩
  · by_cases hb : b = a
    · subst hb
      rw [upd_same] at e
      cases e
      exact ok
    · rw [upd_ne hb] at e
      exact (I.hok b o e).stay (fun c v _ q => q) (fun c q => by rw [upd_ne (nn c _ q)]; exact q) fun c xs q => by rw [upd_ne (nn c _ q)]; exact q
end
/-- what 'except x as n' wishes of an exception of the body, where n's object is looked at further behind: slot i is n's -/
def wAsK (K : PySem.W.Frag) (c : Value) (i : Nat) (ts : Addr → Value → Option Addr → TS) (Wout : WX) (D : Ends) : WX := fun cls d σ H =>
  ∃ b, PySem.W.exmOne K cls c = some b ∧ (b = true → ∃ C dd, cls = .ref C ∧ d = some dd ∧ ∀ a, H a = none → ts a cls d { nx := fun σ' H' => D.nx (σ'.set i none) (upd H' a (xo a C dd)), rt := fun _ _ => False } (σ.set i (some (.ref a))) H) ∧
    (b = false → Wout cls d σ H)
section
variable {X : Cx} {x n : Str} {c : Value} {i : Nat} {body suite : List Stmt} {b₀ : Stmt} {np pos pos' : Pos} {tb : WX → TS} {ts : Addr → Value → Option Addr → TS} {Wout : WX}
theorem ps_try_asK (hs : X.stack = X.env :: X.outer) (hf : X.env.frame = some X.env.locals) (hex : X.ex = []) (hN : X.N.Nodup) (hi : X.N[i]? = some n) (hln : X.env.kindOf n = some .local) (hc : Names X x c) (tk : Takes X Wout)
    (hb : ∀ (W : WX) (pn : List (Addr × Obj)) (xe : Value → Shared → Prop), Takes (X.tr pn xe) W → PassesOwn (model X.prog X.w) X.A X.env xe → PSs (X.tr pn xe) body (tb W))
    (hsu : ∀ (a : Addr) (oe : Obj) (cls : Value) (d : Option Addr) (pn : List (Addr × Obj)), Zc cls d oe → (∃ vs, oe.data = .fields vs) → PSs (X.suite a ((a, oe) :: pn)) (b₀ :: suite) (ts a cls d)) :
    PS X (.Try body [.ExceptHandler (some (.Name x np)) (some n) (b₀ :: suite) pos'] [] [] pos) (fun D σ H => tb (wAsK X.K c i ts Wout D) D σ H) := by
  refine ⟨fun pins s σ H D I h => ?_⟩
  have ok := I.ok
  have hfr : X.A.frames = some (X.env :: X.outer) := by rw [ok.frames, hs]
  have hloc : Loc X.env.scope n := .inl hln
  refine wpAny_Try_except ?_
  have body_ := (hb (wAsK X.K c i ts Wout D) (X.pn ++ pins) (fun e s₁ => wpAny (model X.prog X.w) X.A (noteFrame e X.env) (fun _ s₂ => wpAny (model X.prog X.w) X.A (setFlight e none) (fun _ s₃ =>
    wpAny (model X.prog X.w) X.A (handleBy e X.env [.ExceptHandler (some (.Name x np)) (some n) (b₀ :: suite) pos']) (SP X pins D) X.xe s₃) X.xe s₂) X.xe s₁) (fun u s' xx => ?_) PassesOwn.looking).run [] s σ H D (I.toTry _) h
  · refine wpAny_mono body_ (fun f s1 hsp => ?_) (fun e s1 he => he)
    cases f with
    | next =>
      obtain ⟨σ', H', J', q⟩ := hsp
      exact wpAny_execs_nil ⟨σ', H', J'.ofTry ok, q⟩
    | brk =>
      obtain ⟨σ', H', J', q⟩ := hsp
      exact ⟨σ', H', J'.ofTry ok, q⟩
    | cont =>
      obtain ⟨σ', H', J', q⟩ := hsp
      exact ⟨σ', H', J'.ofTry ok, q⟩
    | ret u =>
      obtain ⟨v, σ', H', J', r, q⟩ := hsp
      exact ⟨v, σ', H', J'.ofTry ok, r, q⟩
  · obtain ⟨a, B, sI, pins', σ', H', cls, d, rfl, J', nb, up, sky, na, os, ag, b, hb1, hyes, hno⟩ := xx
    have J : Inv X pins σ' H' sI := J'.ofTry ok
    have sky' : Sky B (X.env :: X.outer) a (Zc cls d) X.env.locals s'.heap := by rw [← hs]; exact sky
    have nbX : ∀ b o, sI.heap.get? b = some o → b ∉ frs X.stack → B.get? b = some o := nb
    show wpAny (model X.prog X.w) X.A (noteFrame (.ref a) X.env) _ _ _
    refine Sky.land Zc.steady hfr hf sky' fun h3 fl3 up3 => ?_
    have J3 : Inv X pins σ' H' { s' with heap := h3 } := J.landed nbX fl3.1 (up.trans up3) os ag
    obtain ⟨oe3, vs3, he3, hz3, hd3⟩ := fl3.there
    have Ba : B.get? a = none := fl3.2.1
    have notFr : ∀ {h : Heap} {o : Obj} {vs : Array Value}, h.FunFrames B (X.env :: X.outer) → h.get? a = some o → o.data = .fields vs → a ∉ frs (X.env :: X.outer) := fun {h o vs} ff e dd hm => by
      obtain ⟨_, o', e', hnf⟩ := ff.mem hm
      rw [e] at e'
      cases e'
      exact hnf _ dd
    have nfr := notFr fl3.2.2.1 he3 hd3
    have nL : a ≠ X.env.locals := fun z => nfr (List.mem_filterMap.mpr ⟨X.env, List.mem_cons_self, by rw [hf, z]⟩)
    have nF : a ∉ X.fs := fun hm => by
      obtain ⟨e, he, q⟩ := List.mem_filterMap.mp hm
      exact nfr (List.mem_filterMap.mpr ⟨e, List.mem_cons_of_mem _ he, q⟩)
    have nfs : a ∉ frs X.stack := by
      rw [hs]
      exact nfr
    have old : ∀ o, sI.heap.get? a = some o → False := fun o e => by
      have z := nbX a o e nfs
      rw [Ba] at z
      cases z
    have fresh0 : X.s_0.heap.get? a = none := by
      cases z : X.s_0.heap.get? a with
      | none => rfl
      | some o =>
        obtain ⟨o', e⟩ := J.base.there a o z (by rw [hex]; simp)
        exact (old o' e).elim
    have nc : ∀ x c, X.env.cells.lookup x = some c → c ≠ a := fun x c e z => by
      obtain ⟨v, o, ho, _⟩ := J.cell x c e
      exact old o (z ▸ ho)
    have npn : ∀ p ∈ X.pn ++ pins, p.1 ≠ a := fun p hp z => by
      obtain ⟨e, _⟩ := J.pin p hp
      exact old p.2 (z ▸ e)
    have S3 := J3.suite he3 hd3 na nL nF
    refine wpAny_handleBy_cons (codeAny_handlers_test ?_) (by intro q; cases q)
    have LT : PySem.W.Looks (model X.prog X.w) h3 (typeOf (.ref a)) cls := fun A Q E s k q => wpAny_typeOf_ref (k _ _ he3) (by rw [hz3.1]; exact q)
    have LM := PySem.W.exm_one (M := model X.prog X.w) (J3.kIn) LT hb1
    have test : ∀ {Q : Value → Shared → Prop} {E : Value → Shared → Prop}, Q c { s' with heap := h3 } → wpAny (model X.prog X.w) (X.A.mark (some (.ref a))) (eval (.Name x np) X.env) Q E { s' with heap := h3 } := fun {Q E} q => by
      obtain ⟨hg, hdbg, hm | ⟨hm, hv, hnn⟩⟩ := hc
      · exact ld_glob (X := X.suite a ((a, oe3) :: (X.pn ++ pins))) S3 hg hm q hdbg
      · exact ld_blt (X := X.suite a ((a, oe3) :: (X.pn ++ pins))) S3 hg hm hv q hnn hdbg
    refine test (LM.here ?_)
    cases b with
    | true =>
      refine codeAny_handlers_suite_as ?_
      refine HandSPX.lands_againZ fl3 fun h4 fl4 up4 => ?_
      have J4 : Inv X pins σ' H' { s' with heap := h4 } := J.landed nbX fl4.1 ((up.trans up3).trans up4) os ag
      obtain ⟨oe4, vs4, he4, hz4, hd4⟩ := fl4.there
      obtain ⟨C, dd, rfl, rfl, hts⟩ := hyes rfl
      have S4 := J4.suite he4 hd4 na nL nF
      refine store_ok (X := X.suite a ((a, oe4) :: (X.pn ++ pins))) (v := .ref a) S4 hN hi hloc rfl (fun s5 S5 => ?_) (.inr hln)
      refine wpAny_mono ((hsu a oe4 (.ref C) (some dd) (X.pn ++ pins) hz4 ⟨_, hd4⟩).run [] s5 _ H' _ S5 (hts a na)) (fun f s6 hsp => ?_) (fun _ _ z => False.elim z)
      cases f with
      | next =>
        obtain ⟨σ6, H6, S6, q6⟩ := hsp
        have S6' : Inv X ((a, oe4) :: pins) σ6 H6 s6 := by
          have z := S6.unsuite ok
          refine z.pins_of fun p hp => ?_
          rcases List.mem_cons.mp hp with e | e
          · rw [e]
            exact S6.pin (a, oe4) (List.mem_append_left _ List.mem_cons_self)
          · exact z.pin p (List.mem_append_right _ e)
        refine gone_ok S6' hN hi hln fun s7 J7 => ⟨_, _, ?_, q6⟩
        obtain ⟨e7, n7, _⟩ := J7.pin (a, oe4) (List.mem_append_right _ List.mem_cons_self)
        have J8 : Inv X pins (σ6.set i none) H6 s7 := J7.pins_of fun p hp => J7.pin p (List.mem_append_right _ (List.mem_cons_of_mem _ hp))
        exact Inv.track J8 n7 nL fresh0 nc npn (xo_ok e7 hz4 hd4)
      | brk =>
        obtain ⟨_, _, _, q6⟩ := hsp
        exact False.elim q6
      | cont =>
        obtain ⟨_, _, _, q6⟩ := hsp
        exact False.elim q6
      | ret u =>
        obtain ⟨_, _, _, _, _, q6⟩ := hsp
        exact False.elim q6
    | false =>
      show wpAny _ X.A (handleBy (.ref a) X.env []) _ _ _
      refine wpAny_handleBy_nil ?_
      obtain ⟨k1, k2, k3, oe, vs, T, oT, ts', he, hz, hd, h1, hr⟩ := id fl3
      unfold PySem.passOn
      refine wpAny_bind (wpAny_field he hd h1 ?_)
      rw [if_neg (show ¬ ((Value.ref T == Value.none) = true) from by simp)]
      have fin : wpAny (model X.prog X.w) X.A (setFlight (.ref a) X.env.frame) (fun _ s4 => wpAny (model X.prog X.w) X.A (throw (.ref a) : Sem Flow) (SP X pins D) X.xe s4) X.xe { s' with heap := h3 } := by
        rw [hf]
        refine HandSPX.setFlight_upZ fl3 fun h4 hh4 up4 => wpAny_throw (tk _ _ ?_)
        exact ⟨a, B, sI, pins, σ', H', cls, d, rfl, J, nb, (up.trans up3).trans up4, .inr (.inr (by rw [hs]; exact hh4)), na, os, ag, hno rfl⟩
      first
        | exact wpAny_bind (wpAny_pure (wpAny_bind fin))
        | exact wpAny_bind fin
end
/-! ### the held exception is asked -/
/-- isinstance(e, D), e a held exception -/
def rIsX (K : PySem.W.Frag) : List V → Hp → VK → Prop := fun xs H Q => ∃ (a C d D : Addr) (fs : List (Str × V)) (b : Bool), xs = [.ref a, .ref D] ∧ H a = some (xo a C d) ∧ H d = some (.xd fs) ∧ ExcC K C ∧ PySem.W.kitOne K (.ref C) (.ref D) = some b ∧ Q (.bl b) H
section
variable {X : Cx} {pins : List (Addr × Obj)} {σ : L2.St} {H : Hp} {s : Shared}
theorem xo_inst {a C d : Addr} {fs : List (Str × V)} (I : Inv X pins σ H s) (ha : H a = some (xo a C d)) (hd : H d = some (.xd fs)) : ∃ oe od, PySem.W.InstAt s.heap a oe C (some od) ∧ s.heap.get? d = some od ∧ ∀ n v, fs.lookup n = some v → ∃ u, RelV v u ∧ PySem.W.lookIn n od = some (some u) := by
  obtain ⟨oe, vs, he, hc, hdi, hda⟩ := xo_at I.hok ha
  have hx : ObjOk X.prog X.w H s.heap d (.xd fs) := I.hok d _ hd
  obtain ⟨mA, hns, hr⟩ := hx
  obtain ⟨od, ho, hl⟩ := lookIn_ns hns
  refine ⟨oe, od, ⟨he, hc, by unfold PySem.W.notCls; rw [hda] <;> rfl, by rw [hdi]; exact ho⟩, ho, fun n v e => ?_⟩
  obtain ⟨u, hu, ru⟩ := RelO.some_of (v := v) (o := mA n) (by rw [← e]; exact hr n)
  exact ⟨u, ru, by rw [hl, hu]⟩
theorem call_isX : CallR X (.builtin "isinstance") (rIsX X.K) := by
  intro pins s σ H xs us Q I r h
  obtain ⟨a, C, d, D, fs, b, rfl, ha, hd, ec, e, q⟩ := h
  cases r with
  | cons rx rr =>
    cases rr with
    | cons rt rr =>
      cases rr
      cases rx
      cases rt
      obtain ⟨oe, od, J, _⟩ := xo_inst I ha hd
      exact PySem.W.kia_one (PySem.W.k6_kitx ec) I.kIn ⟨_, _, J⟩ e (fun z => nomatch z) fun tk => ⟨.bl b, H, I.kept (t' := tk) fun _ _ z => z, rfl, q⟩
/-- e.f, e a held exception -/
def tXo (K : PySem.W.Frag) (f : Str) (te : TE) : TE := fun σ H Q => te σ H fun x H1 => ∃ (a C d : Addr) (fs : List (Str × V)) (v : V), x = .ref a ∧ H1 a = some (xo a C d) ∧ H1 d = some (.xd fs) ∧ XfC K C ∧ PySem.W.findIn K (.ref C) f = some none ∧ fs.lookup f = some v ∧ Q v H1
theorem pe_xo {e : Expr} {te : TE} {pos : Pos} {n : Str} (he : PE X e te) (hb : attributeBase e n X.env (eval e X.env) = eval e X.env := by rfl) : PE X (.Attribute e n pos) (tXo X.K n te) := by
  refine ⟨fun pins s σ H Q I h => ?_⟩
  refine attr_of hb (thn (he.run pins s σ H _ I h) fun u s1 hh => ?_)
  obtain ⟨x, H1, I1, rx, a, C, d, fs, v, ex, ha, hd, T, hno, l, q⟩ := hh
  subst ex
  obtain rfl : u = Value.ref a := rx
  obtain ⟨oe, od, J, _, hl⟩ := xo_inst I1 ha hd
  obtain ⟨u, ru, hu⟩ := hl n v l
  exact HandSPX.exc_get I1.kIn J T.ga T.gg T.exC (PySem.W.findObj_own T.hdC hno rfl hu) (handed_of ru) ⟨v, H1, I1.tok _, ru, q⟩
end
end K6
end
section -- KLam3
set_option maxHeartbeats 4000000
/-! A lambda with one parameter that has a written int as its default, handed to a def that calls it without arguments. -/
namespace K6
open PySem PySem.Spec PyProof.Rows L2 LamX
/-- its function's words -/
abbrev lfd (qual : Str) (params : Arguments) (body : Expr) (scope : Scope) (cl : List (Str × Addr)) (dV pm cdv ct : Value) : FuncData :=
  { name := "<lambda>", qualname := qual, params, body := .expr body, scope, globals := mainGlobals, closure := cl, defaults := dV, kwdefaults := .none, doc := .none, pyModule := pm, annotations := none, code := cdv, closureTuple := ct, builtins := builtinsNs }
abbrev lobj (qual : Str) (params : Arguments) (body : Expr) (scope : Scope) (cl : List (Str × Addr)) (dV pm cdv ct : Value) : Obj := { cls := .type "function", data := .func (lfd qual params body scope cl dV pm cdv ct) }
abbrev oneTup (v : Value) : Obj := { cls := .type "tuple", data := .seq ([v] : List Value).toArray }
section
variable {M : Model} {A : Around} {E : Value → Shared → Prop} {s : Shared} {qual : Str} {params : Arguments} {body : Expr} {scope : Scope} {env : Env} {c P : Addr} {ps : Array Value} {pos : Pos} {firstLine : Nat} {mg : Str → Option Value} {clos : List (Str × Addr)} {dV : Value} {Q : Value → Shared → Prop}
theorem tail_new (hcl : closureFor scope env = pure clos) (hge0 : env.globals = mainGlobals) (hg : s.heap.Ns mainGlobals mg) (hcode : env.code = .ref c) (C : PySem.W.CodeHd s.heap c P) (hP : s.heap.get? P = some (PySem.W.tabObj ps)) (ht : TriplesOk ps.toList)
    (hnf : codeAmong pos ps.toList = none) (hgP : mainGlobals ≠ P) (hb : s.heap.BuiltinsAt mg P)
    (h : ∀ c' ctv h' tk, Heap.ExtBut P s.heap h' → s.heap.objs.size ≤ c' → c' < h'.objs.size → h'.CodeRec (.ref c') qual → h'.get? P = some (PySem.W.tabObj (ps ++ #[rawInt pos.line, rawInt pos.col, .ref c'])) →
      Q (.ref h'.objs.size) { s with heap := h'.push (lobj qual params body scope clos dV ((mg "__name__").getD .none) (.ref c') ctv), toks := tk }) :
    wpAny M A (makeTail "<lambda>" qual params (.expr body) scope env dV .none none pos firstLine) Q E s := by
  obtain ⟨bm, ob, hbm, hne0, _, hneP, hbo, hcls, hdict, hdata⟩ := hb
  unfold makeTail
  rw [hcl, hge0]
  refine wpAny_bind (wpAny_pure ?_)
  cases clos with
  | nil =>
    simp only [List.isEmpty_nil, if_true]
    refine wpAny_bind (wpAny_pure ?_)
    refine wpAny_bind (wpAny_functionCodeX hcode (C.code hP ht) (C.tab hP) hnf fun c' h' tk hx hge hlt _ hrec htb _ => ?_)
    have hg' := hg.extBut hx hgP
    refine wpAny_bind (wpAny_builtinsFor hg' hbm hne0 (hx _ _ hneP hbo) hcls hdict hdata ?_)
    refine wpAny_bind (wpAny_nsGet hg' ?_)
    exact wpAny_bind (wpAny_pure (wpAny_newObj_type (h c' .none h' tk hx hge hlt hrec htb.2) (by size_fits)))
  | cons q r =>
    simp only [List.isEmpty_cons, Bool.false_eq_true, if_false]
    refine wpAny_bind (wpAny_newTextTuple ?_)
    refine wpAny_bind (wpAny_functionCodeX hcode ((C.keeps fun b o e => Heap.get?_push_of_some _ e).code (Heap.get?_push_of_some _ hP) ht) ((C.keeps fun b o e => Heap.get?_push_of_some _ e).tab (Heap.get?_push_of_some _ hP)) hnf fun c' h' tk hx hge hlt _ hrec htb _ => ?_)
    have hg' := (hg.push _).extBut hx hgP
    have hx' : Heap.ExtBut P s.heap h' := fun b o hb' e => hx b o hb' (Heap.get?_push_of_some _ e)
    have hge' : s.heap.objs.size ≤ c' := Nat.le_trans (by rw [Heap.size_push]; omega) hge
    refine wpAny_bind (wpAny_builtinsFor hg' hbm hne0 (hx' _ _ hneP hbo) hcls hdict hdata ?_)
    refine wpAny_bind (wpAny_nsGet hg' ?_)
    exact wpAny_bind (wpAny_pure (wpAny_newObj_type (h c' _ h' tk hx' hge' hlt hrec htb.2) (by size_fits)))
theorem tail_hit {cv : Value} (hcl : closureFor scope env = pure clos) (hge0 : env.globals = mainGlobals) (hg : s.heap.Ns mainGlobals mg) (hcode : env.code = .ref c) (C : PySem.W.CodeHd s.heap c P) (hP : s.heap.get? P = some (PySem.W.tabObj ps)) (ht : TriplesOk ps.toList)
    (hf : codeAmong pos ps.toList = some cv) (hb : s.heap.BuiltinsAt mg P)
    (h : ∀ (ctv : Value) (h' : Heap) (tk : Tok), (∀ b o, s.heap.get? b = some o → h'.get? b = some o) → s.heap.objs.size ≤ h'.objs.size →
      Q (.ref h'.objs.size) { s with heap := h'.push (lobj qual params body scope clos dV ((mg "__name__").getD .none) cv ctv), toks := tk }) :
    wpAny M A (makeTail "<lambda>" qual params (.expr body) scope env dV .none none pos firstLine) Q E s := by
  obtain ⟨bm, ob, hbm, hne0, _, hneP, hbo, hcls, hdict, hdata⟩ := hb
  unfold makeTail
  rw [hcl, hge0]
  refine wpAny_bind (wpAny_pure ?_)
  cases clos with
  | nil =>
    simp only [List.isEmpty_nil, if_true]
    refine wpAny_bind (wpAny_pure ?_)
    refine wpAny_bind (wpAny_functionCode_hit hcode (C.code hP ht) hf ?_)
    refine wpAny_bind (wpAny_builtinsFor hg hbm hne0 hbo hcls hdict hdata ?_)
    refine wpAny_bind (wpAny_nsGet hg ?_)
    exact wpAny_bind (wpAny_pure (wpAny_newObj_type (h .none s.heap s.toks (fun _ _ e => e) (Nat.le_refl _)) (by size_fits)))
  | cons q r =>
    simp only [List.isEmpty_cons, Bool.false_eq_true, if_false]
    refine wpAny_bind (wpAny_newTextTuple ?_)
    refine wpAny_bind (wpAny_functionCode_hit hcode ((C.keeps fun b o e => Heap.get?_push_of_some _ e).code (Heap.get?_push_of_some _ hP) ht) hf ?_)
    refine wpAny_bind (wpAny_builtinsFor (hg.push _) hbm hne0 (Heap.get?_push_of_some _ hbo) hcls hdict hdata ?_)
    refine wpAny_bind (wpAny_nsGet (hg.push _) ?_)
    have hsz : ∀ oT : Obj, s.heap.objs.size ≤ (s.heap.push oT).objs.size := fun oT => by rw [Heap.size_push]; omega
    exact wpAny_bind (wpAny_pure (wpAny_newObj_type (h _ _ s.toks (fun b o e => Heap.get?_push_of_some _ e) (hsz _)) (by size_fits)))
end
/-- the names of such a lambda's body: its parameter (no name of the maker's), captured ones, globals -/
structure Lam3S (N : List Str) (sc scope : Scope) (a : Str) : Prop where
  kind : scope.kind = .function
  co : scope.isCoroutine = false
  gen : scope.isGenerator = false
  par : scope.names.lookup a = some .local
  own : ∀ y ∈ scope.names, y.2 ≠ .cell ∧ (y.2 = .local → y.1 ∉ N)
  free : ∀ y ∈ scope.names, y.2 = .free → sc.names.lookup y.1 = some .cell ∨ sc.names.lookup y.1 = some .free
def lam3SB (N : List Str) (sc scope : Scope) (a : Str) : Bool :=
  decide (scope.kind = .function) && !scope.isCoroutine && !scope.isGenerator && decide (scope.names.lookup a = some .local) && scope.names.all fun y => !decide (y.2 = .cell) && (!decide (y.2 = .local) || decide (y.1 ∉ N)) && (!decide (y.2 = .free) || decide (sc.names.lookup y.1 = some .cell) || decide (sc.names.lookup y.1 = some .free))
theorem lam3S_by {N : List Str} {sc scope : Scope} {a : Str} (h : lam3SB N sc scope a = true) : Lam3S N sc scope a := by
  unfold lam3SB at h
  simp only [Bool.and_eq_true, Bool.or_eq_true, Bool.not_eq_true', decide_eq_true_eq, decide_eq_false_iff_not, List.all_eq_true] at h
  obtain ⟨⟨⟨⟨h1, h2⟩, h3⟩, h4⟩, h5⟩ := h
  refine ⟨h1, h2, h3, h4, fun y hy => ⟨(h5 y hy).1.1, fun e => ?_⟩, fun y hy e => ?_⟩
  · rcases (h5 y hy).1.2 with z | z
    · exact absurd e z
    · exact z
  · rcases (h5 y hy).2 with (z | z) | z
    · exact absurd e z
    · exact .inl z
    · exact .inr z
theorem Lam3S.has {X : Cx} {scope : Scope} {a : Str} (L : Lam3S X.N X.env.scope scope a) (ok : X.Ok) : ∀ y ∈ scope.names, y.2 = .free → ∃ c, X.env.cells.lookup y.1 = some c := fun y hy e => by
  rcases L.free y hy e with k | k
  · exact ok.has _ (.inl k)
  · exact ok.has _ (.inr k)
section
variable {X : Cx} {pins : List (Addr × Obj)} {σ : L2.St} {H : Hp} {s : Shared}
/-- such a lambda is made -/
theorem lam_make3 {T : List (Addr × Str)} {c P : Addr} {params : Arguments} {body : Expr} {scope : Scope} {pos dp : Pos} {i : Int} {j : Nat} {E : Value → Shared → Prop} {Q : Value → Shared → Prop} (I : Inv X pins σ H s) (TB : TabB X.base X.mg c P) (hcode : X.env.code = .ref c)
    (hm : (P, X.env.qual ++ "<lambda>") ∈ T) (hu : ∀ p ∈ T, p.1 = P → p.2 = X.env.qual ++ "<lambda>") (hT : Tabs T H) (hdef : defaultsOf params X.env = ([eval (.Constant (.int i) j dp) X.env], [])) (hkw : params.kwonlyargs = [])
    (hfree : ∀ y ∈ scope.names, y.2 = .free → ∃ c, X.env.cells.lookup y.1 = some c)
    (h : ∀ (f c' D : Addr) (pm ctv : Value) (t : Tok) (H1 : Hp) (s' : Shared), Inv X pins σ H1 s' → ExtN H H1 → Tabs T H1 →
      s'.heap.get? f = some (lobj (X.env.qual ++ "<lambda>") params body scope (cloFrom X.env.cells scope.names []) (.ref D) pm (.ref c') ctv) → H1 f = none → f ∉ frs X.stack →
      s'.heap.get? D = some (oneTup (.int i t)) → H1 D = none → D ∉ frs X.stack → H1 c' = some (CodeO c' (X.env.qual ++ "<lambda>")) → Q (.ref f) s') :
    wpAny (model X.prog X.w) X.A (eval (.Lambda params body scope pos) X.env) Q E s := by
  rw [arm_eval_Lambda, hdef]
  show wpAny _ _ (do let dv ← evalAll [eval (.Constant (.int i) j dp) X.env]; let kdv ← holding dv (evalAllOpt []); makeFunction "<lambda>" (X.env.qual ++ "<lambda>") params (.expr body) scope X.env dv kdv [] pos pos.line) Q E s
  unfold evalAll
  refine wpAny_bind (wpAny_bind (wpAny_Constant_int ?_))
  unfold evalAll
  refine wpAny_bind (wpAny_holding (wpAny_pure (wpAny_pure ?_)))
  refine wpAny_bind (wpAny_holding (wpAny_pure ?_))
  rw [makeFunction_eq, hkw]
  simp only [List.zip_nil_left, List.filterMap_nil, List.isEmpty_nil, List.isEmpty_cons, Bool.false_eq_true, if_true, if_false, pure_bind]
  refine wpAny_bind (wpAny_newTextTuple ?_)
  obtain ⟨ps, hP, ht, ha⟩ := hT _ hm
  have nofr : ∀ f, s.heap.objs.size ≤ f → f ∉ frs X.stack := fun f hf z => by
    rcases List.mem_cons.mp (I.stkSub _ z) with e | e
    · have h1 := I.lt
      rw [← e] at h1
      exact Nat.lt_irrefl _ (Nat.lt_of_lt_of_le h1 hf)
    · exact I.nofs hf e
  generalize hv : Value.int i s.toks = v
  have I0 : Inv X pins σ H { s with heap := s.heap.push (oneTup v), toks := s.toks + 1 } := I.kept (t' := s.toks + 1) fun b o e => Heap.get?_push_of_some _ e
  have bP : (s.heap.push (oneTup v)).BuiltinsAt X.mg P := TB.bm.keeps I0.bk
  have hP' : (s.heap.push (oneTup v)).get? P = some { cls := .none, data := .fields ps } := I0.hok P _ hP
  have hD : (s.heap.push (oneTup v)).get? s.heap.objs.size = some (oneTup v) := Heap.get?_push_size _ rfl
  have DP : s.heap.objs.size ≠ P := fun z => by
    rw [z, hP'] at hD
    cases hD
  cases hc : codeAmong pos ps.toList with
  | none =>
    refine tail_new (s := { s with heap := s.heap.push (oneTup v), toks := s.toks + 1 }) (mg := X.mg) (c := c) (P := P) (ps := ps) (closure_ok hfree) I.ok.glob (I0.mod.glob.keeps I0.bk) hcode (TB.code.keeps I0.bk) hP' ht hc TB.gP bP fun c' ctv h' tk hx hge hlt hrec htb => ?_
    obtain ⟨c2, oc, vs, t, e2, hoc, hd, hvv⟩ := hrec
    cases e2
    have hsz : (s.heap.push (oneTup v)).objs.size ≤ h'.objs.size := Nat.le_trans hge (Nat.le_of_lt hlt)
    have hsz0 : s.heap.objs.size ≤ h'.objs.size := Nat.le_trans (by rw [Heap.size_push]; omega) hsz
    have nC : H c' = none := I0.hok.fresh hge
    have I1 := inv_table (t' := tk) (more := #[rawInt pos.line, rawInt pos.col, .ref c']) (h' := h'.push (lobj (X.env.qual ++ "<lambda>") params body scope (cloFrom X.env.cells scope.names []) (.ref s.heap.objs.size) ((X.mg "__name__").getD .none) (.ref c') ctv)) I0 hP
      (fun b o hb e => Heap.get?_push_of_some _ (hx b o hb e)) (Heap.get?_push_of_some _ htb) hge ⟨oc, vs, t, Heap.get?_push_of_some _ hoc, hd, hvv⟩
    have hE : ExtN H (upd (upd H P (.tbl (ps ++ #[rawInt pos.line, rawInt pos.col, .ref c']))) c' (CodeO c' (X.env.qual ++ "<lambda>"))) := fun b o e n => by
      rw [upd_ne (ne_of_none e nC), upd_ne (fun z => n ps (Option.some.inj (e.symm.trans (by rw [z]; exact hP))))]
      exact e
    have eL : (ps ++ #[rawInt pos.line, rawInt pos.col, .ref c']).toList = ps.toList ++ [rawInt pos.line, rawInt pos.col, .ref c'] := by simp
    have Dc : s.heap.objs.size ≠ c' := fun z => by
      have q : (s.heap.push (oneTup v)).objs.size ≤ c' := hge
      rw [Heap.size_push] at q
      omega
    refine h h'.objs.size c' s.heap.objs.size ((X.mg "__name__").getD .none) ctv s.toks _ _ I1 hE (fun p hp => ?_) (Heap.get?_push_size _ rfl) ?_ (nofr _ hsz0) (by rw [hv]; exact Heap.get?_push_of_some _ (hx _ _ DP hD)) ?_ (nofr _ (Nat.le_refl _)) upd_same
    · by_cases hb : p.1 = P
      · rw [hu p hp hb, hb]
        refine ⟨_, by rw [upd_ne (ne_of_none hP nC), upd_same], by rw [eL]; exact PySem.TriplesOk_snoc _ _ _ _ ht, fun p' cv hcv => ?_⟩
        rw [eL] at hcv
        rcases among_app _ ht hcv with z | z
        · obtain ⟨c0, e1, e2⟩ := ha p' cv z
          exact ⟨c0, e1, hE _ _ e2 codeO_ne⟩
        · exact ⟨c', z, upd_same⟩
      · obtain ⟨ps', a1, a2, a3⟩ := hT p hp
        refine ⟨ps', by rw [upd_ne (ne_of_none a1 nC), upd_ne hb]; exact a1, a2, fun p' cv hcv => ?_⟩
        obtain ⟨c0, e1, e2⟩ := a3 p' cv hcv
        exact ⟨c0, e1, hE _ _ e2 codeO_ne⟩
    · have n1 : h'.objs.size ≠ c' := Nat.ne_of_gt hlt
      have n2 : h'.objs.size ≠ P := Nat.ne_of_gt (Nat.lt_of_lt_of_le (Heap.lt_size hP') hsz)
      rw [upd_ne n1, upd_ne n2]
      exact I0.hok.fresh hsz
    · rw [upd_ne Dc, upd_ne DP]
      exact I.hok.fresh (Nat.le_refl _)
  | some cv =>
    obtain ⟨c', e, hco⟩ := ha pos cv hc
    subst e
    refine tail_hit (s := { s with heap := s.heap.push (oneTup v), toks := s.toks + 1 }) (mg := X.mg) (c := c) (P := P) (ps := ps) (closure_ok hfree) I.ok.glob (I0.mod.glob.keeps I0.bk) hcode (TB.code.keeps I0.bk) hP' ht hc bP fun ctv h' tk hx hsz => ?_
    have hsz0 : s.heap.objs.size ≤ h'.objs.size := Nat.le_trans (by rw [Heap.size_push]; omega) hsz
    have I1 : Inv X pins σ H { s with heap := h'.push (lobj (X.env.qual ++ "<lambda>") params body scope (cloFrom X.env.cells scope.names []) (.ref s.heap.objs.size) ((X.mg "__name__").getD .none) (.ref c') ctv), toks := tk } := I0.kept fun b o e => Heap.get?_push_of_some _ (hx b o e)
    exact h h'.objs.size c' s.heap.objs.size ((X.mg "__name__").getD .none) ctv s.toks H _ I1 (ExtN.refl H) hT (Heap.get?_push_size _ rfl) (I0.hok.fresh hsz) (nofr _ hsz0) (by rw [hv]; exact Heap.get?_push_of_some _ (hx _ _ hD)) (I.hok.fresh (Nat.le_refl _)) (nofr _ (Nat.le_refl _)) hco
end
section
variable {X : Cx} {pins : List (Addr × Obj)} {σ : L2.St} {H HZ : Hp} {s s1 : Shared}
theorem lam_start3 {A : Around} {outer : List Env} {E : XK} {scope : Scope} {f c' : Addr} {h₁ : Heap} {tk : Nat} {a : Str} {v : Value} (I : Inv X pins σ H s) (L : Lam3S X.N X.env.scope scope a) (e0 : Env0 X.prog X.w X.K X.mg X.base A outer s1 HZ) (hd : A.handled = none)
    (un : Un (frs X.stack) [] H HZ s.heap s1.heap) (hns : h₁.Ns s1.heap.objs.size fun y => ([(a, v)] : List (Str × Value)).reverse.lookup y) (kp : ∀ b o, s1.heap.get? b = some o → h₁.get? b = some o) :
    Inv (lamCx X A outer s1 HZ E scope f c') [] σ HZ { s1 with heap := h₁, toks := tk } := by
  have hfree := L.has I.ok
  have cm : ∀ {y c}, (cloFrom X.env.cells scope.names []).lookup y = some c → X.env.cells.lookup y = some c := fun {y c} e => by
    rcases cloFrom_mem (PySem.mem_of_lookup e) with hm | ⟨h1, h2⟩
    · cases hm
    · obtain ⟨c1, hc⟩ := hfree _ h1 rfl
      have hc : X.env.cells.lookup y = some c1 := hc
      have e2 : c = c1 := by
        rw [h2, hc] <;> rfl
      rw [e2]
      exact hc
  have look : ∀ {y}, scope.names.lookup y = some .free → ∃ c, (cloFrom X.env.cells scope.names []).lookup y = some c := fun {y} hl => by
    have hy : (y, NameKind.free) ∈ scope.names := PySem.mem_of_lookup hl
    exact mem_lookup (cloFrom_has (cells := X.env.cells) (acc := []) hy)
  have cellK : ∀ {c : Addr} {v : Option Value}, H c = none → s.heap.IsCell c v → h₁.IsCell c v := fun {c v} n ⟨o, ho, hd⟩ => by
    obtain ⟨sl, q⟩ := un.any ho n (by simp)
    exact ⟨_, kp _ _ q, hd⟩
  have noA : ∀ b : Addr, b ∉ (lamCx X A outer s1 HZ E scope f c').ex := fun b z => absurd (show b ∈ ([] : List Addr) from z) (by simp)
  refine ⟨⟨e0.mod, L.kind, rfl, rfl, Nat.le_refl _, fun y z c e1 e2 => I.ok.inj y z c (cm e1) (cm e2), fun y hy => ?_, fun y c z _ => ?_, fun _ => hd, Around.frames_deeper e0.frames, .inr ⟨rfl, rfl⟩, fun b z => absurd z (noA b), e0.bs, e0.bsz, fun b _ _ => noA b,
      fun b z => absurd z (noA b), e0.funs, e0.frf⟩,
    rfl, e0.bare, Un.kept kp, ⟨_, hns, fun i y v e1 e2 e3 => ?_⟩, fun y c e => ?_, e0.hok.fresh (Nat.le_refl _), fun y c e => ?_, fun q hq => absurd (show q ∈ ([] : List (Addr × Obj)) ++ [] from hq) (by simp), e0.hok.kept kp, I.len⟩
  · have hy : scope.names.lookup y = some .cell ∨ scope.names.lookup y = some .free := hy
    rcases hy with hy | hy
    · exact absurd rfl (L.own _ (PySem.mem_of_lookup hy)).1
    · exact look hy
  · have z : false = true := z
    cases z
  · have e3 : Vis scope y := e3
    rcases e3 with k | k | k
    · exact absurd (List.mem_of_getElem? e1) ((L.own _ (PySem.mem_of_lookup k)).2 rfl)
    · exact absurd rfl (L.own _ (PySem.mem_of_lookup k)).1
    · obtain ⟨m, hn, hl⟩ := I.loc
      have hvis : Vis X.env.scope y := (L.free _ (PySem.mem_of_lookup k) rfl).elim (fun k => .inr (.inl k)) (fun k => .inr (.inr k))
      obtain ⟨w', r, q⟩ := hl i y v e1 e2 hvis
      obtain ⟨c2, h2⟩ := look k
      refine ⟨w', r, .inr ⟨.inr k, c2, h2, ?_⟩⟩
      have c1 := cm h2
      rcases q with ⟨k', _⟩ | ⟨_, c3, e', z⟩
      · have k' : X.env.scope.names.lookup y = some .local := k'
        rcases L.free _ (PySem.mem_of_lookup k) rfl with k2 | k2 <;> rw [show X.env.scope.names.lookup y = _ from k2] at k' <;> cases k'
      · rw [c1] at e'
        cases e'
        exact cellK (I.freeC y _ c1) z
  · obtain ⟨w', z⟩ := I.cell y c (cm e)
    exact ⟨w', cellK (I.freeC y c (cm e)) z⟩
  · obtain ⟨v, o, ho, hd⟩ := I.cell y c (cm e)
    exact un.free c o ho (I.freeC y c (cm e)) (by simp)
/-- x(), in the def that got the lambda -/
theorem pe_act3 {CXg : CXT} {Eg : XK} {Ng : List Str} {qg : Str} {sg : Scope} {g f c' D : Addr} {cdg pm ctv v : Value} {params : Arguments} {body : Expr} {scope : Scope} {k i : Nat} {a b : Str} {pn : List (Addr × Obj)} {xe : Value → Shared → Prop} {W : WX} {E : XK} {tb : TE} {p1 p2 : Pos}
    (I : Inv X pins σ H s) (L : Lam3S X.N X.env.scope scope b) (hf : s.heap.get? f = some (lobj (X.env.qual ++ "<lambda>") params body scope (cloFrom X.env.cells scope.names []) (.ref D) pm (.ref c') ctv)) (hfn : H f = none) (hfr : f ∉ frs X.stack)
    (hD : s.heap.get? D = some (oneTup v)) (hDn : H D = none) (hDr : D ∉ frs X.stack)
    (hbind : ∃ kk, bindArgs (lfd (X.env.qual ++ "<lambda>") params body scope (cloFrom X.env.cells scope.names []) (.ref D) pm (.ref c') ctv) ⟨[], []⟩ = seqItems? (.ref D) >>= kk ∧ kk (some ([v] : List Value).toArray) = pure [(b, v)])
    (tk : Takes ((cxOf CXg X.prog X.w X.K X.mg X.base Ng qg sg g cdg X.A X.stack s H Eg).tr pn xe) W) (hW : ∀ cls d σ' H', E cls d H' → W cls d σ' H') (hr : Room (k + 1) (X.A.deeper (envOfC qg sg s.heap.objs.size g cdg)))
    (hbody : ∀ (A : Around) (outer : List Env) (s : Shared) (H : Hp), Room k (A.deeper (lamEnv X scope s.heap.objs.size f c')) → PE (lamCx X A outer s H E scope f c') body tb)
    (hN : Ng[i]? = some a) (hv : Vis sg a) (hd : (a == ("__debug__" : Str)) = false := by decide) (hcd : (a == ("__classdict__" : Str)) = false := by decide) :
    PE ((cxOf CXg X.prog X.w X.K X.mg X.base Ng qg sg g cdg X.A X.stack s H Eg).tr pn xe) (.Call (.Name a p1) [] [] p2)
      (fun σZ HZ Q => σZ[i]? = some (some (.ref f)) ∧ HZ c' = some (CodeO c' (X.env.qual ++ "<lambda>")) ∧ tb σ HZ Q) := by
  refine ⟨fun pinsZ sZ σZ HZ Q IZ h => ?_⟩
  obtain ⟨hs, hc, ht⟩ := h
  refine wpAny_Call_Name_kw (thn ((pe_var (pos := p1) (i := i) hN hv hd hcd).run pinsZ sZ σZ HZ (fun v H1 => v = .ref f ∧ H1 = HZ) IZ ⟨.ref f, hs, rfl, rfl⟩) fun u s1 ⟨v1, H1, I1, r1, q1⟩ => ?_)
  obtain ⟨ev, eH⟩ := q1
  subst ev
  rw [eH] at I1
  obtain rfl : u = Value.ref f := r1
  have nx : ∀ b : Addr, b ∉ ([] : List Addr) := fun _ z => nomatch z
  have of1 : s1.heap.get? f = some (lobj (X.env.qual ++ "<lambda>") params body scope (cloFrom X.env.cells scope.names []) (.ref D) pm (.ref c') ctv) := I1.base.keep f _ hf hfn hfr (nx f)
  have oD1 : s1.heap.get? D = some (oneTup v) := I1.base.keep D _ hD hDn hDr (nx D)
  refine PySem.W.callWith_F0 ⟨_, _, _, _, of1⟩ ?_
  have un : Un (frs X.stack) [] H HZ s.heap s1.heap := I1.base
  obtain ⟨⟨oc, vs, t, hoc, hdc, hvc⟩, _, _⟩ := I1.hok c' _ hc
  have rc : codeAny (model X.prog X.w) (X.A.deeper (envOfC qg sg s.heap.objs.size g cdg)) (.call (.ref f) ⟨[], []⟩) (CR (L2.CX X.prog X.w) (envOfC qg sg s.heap.objs.size g cdg :: X.stack) X.prog X.w HZ s1 Q E) s1 := by
    refine PySem.W.kla_callFunE hr.depth of1 rfl L.co L.gen rfl ⟨c', oc, vs, t, rfl, hoc, hdc, hvc⟩ ?_
    obtain ⟨kk, hb1, hb2⟩ := hbind
    rw [hb1]
    refine wpAny_bind (wpAny_seqItems oD1 rfl ?_)
    rw [hb2]
    refine wpAny_pure (wpAny_newFunctionEnv (fun y hy => (L.own y hy).1) (fun y hy => ?_) (fun h₁ hns hsb => ⟨I1.nolimit.fresh _ hsb, ?_⟩) L.kind)
    · have e : y = (b, v) := by simpa using hy
      rw [e]
      exact L.par
    show codeAny _ _ (.expr body (lamEnv X scope s1.heap.objs.size f c')) _ _
    have kp : ∀ b o, s1.heap.get? b = some o → h₁.get? b = some o := fun b o e => hsb.extBut b o (Nat.ne_of_lt (Heap.lt_size e)) (Heap.get?_push_of_some _ e)
    have J : Inv (lamCx X (X.A.deeper (envOfC qg sg s.heap.objs.size g cdg)) (envOfC qg sg s.heap.objs.size g cdg :: X.stack) s1 HZ E scope f c') [] σ HZ { s1 with heap := h₁, toks := s1.toks + ([(b, v)] : List (Str × Value)).length } :=
      lam_start3 I L I1.env0 hr.hd un hns kp
    refine PySem.W.kla_codeExpr (wpAny_mono ((hbody _ _ s1 HZ (hr.deeper _)).run [] _ _ HZ Q J ht) (fun v s' hq => ?_) fun e s' hq => hq)
    obtain ⟨w', H', J', rv, q⟩ := hq
    exact ⟨w', H', J'.os, J'.bare, J'.base, J'.hok, rv, q⟩
  have hx : Passes (L2.CX X.prog X.w) ((cxOf CXg X.prog X.w X.K X.mg X.base Ng qg sg g cdg X.A X.stack s H Eg).tr pn xe) E := passes_call tk hW
  refine wpAny_call (codeAny_mono rc fun r s' hq => ?_)
  cases r with
  | error e => exact hx pinsZ σZ HZ s1 e s' I1 hq
  | ok fl =>
    cases fl with
    | ret u => exact I1.after hq
    | next => exact False.elim hq
    | brk => exact False.elim hq
    | cont => exact False.elim hq
end
section
variable {X : Cx}
/-- x(lambda b=i: body) -/
theorem pe_lamcall3 {T : List (Addr × Str)} {TT : (XK → Hp → VK → Prop) → Hp → VK → Prop} {x a b : Str} {g c P : Addr} {k : Nat} {pg : Arguments} {bg : List Stmt} {sg : Scope} {dV kV doc pm cdv ct oc : Value} {an od : Option Addr} {osl : Array (Option Value)} {Ng : List Str}
    {params : Arguments} {body : Expr} {scope : Scope} {t : XK → TE} {p lpos pos dp : Pos} {i : Int} {j : Nat} (hg : Gl X x) (hm : X.mg x = some (.ref g)) (hk : PySem.W.keepIn X.K (.ref g) = true)
    (lk : X.K.lookup g = some ⟨oc, od, .func (PySem.W.fnOf x x pg bg sg dV kV doc pm an cdv ct), osl⟩) (hcg : PySem.W.codeIn X.K cdv x = true) (hb : L2.Binds X.K (PySem.W.fnOf x x pg bg sg dV kV doc pm an cdv ct) [a] []) (Sg : FnScope Ng [a] sg) (hNg : Ng[0]? = some a) (hva : Vis sg a)
    (hG : GivesTo X Ng x sg g cdv bg a (X.env.qual ++ "<lambda>") TT)
    (TB : TabB X.base X.mg c P) (hcode : X.env.code = .ref c) (hmT : (P, X.env.qual ++ "<lambda>") ∈ T) (hu : ∀ p ∈ T, p.1 = P → p.2 = X.env.qual ++ "<lambda>") (hr : Room (k + 2) X.A) (L : Lam3S X.N X.env.scope scope b)
    (hdef : defaultsOf params X.env = ([eval (.Constant (.int i) j dp) X.env], [])) (hkw : params.kwonlyargs = [])
    (hbind : ∀ (q : Str) (cl : List (Str × Addr)) (D : Addr) (pm cv ctv v : Value), ∃ kk, bindArgs (lfd q params body scope cl (.ref D) pm cv ctv) ⟨[], []⟩ = seqItems? (.ref D) >>= kk ∧ kk (some ([v] : List Value).toArray) = pure [(b, v)])
    (hbody : ∀ (A : Around) (outer : List Env) (s : Shared) (H : Hp) (E : XK) (f c' : Addr), Room k (A.deeper (lamEnv X scope s.heap.objs.size f c')) → PE (lamCx X A outer s H E scope f c') body (t E))
    (hdb : (x == ("__debug__" : Str)) = false := by decide) (hd : (a == ("__debug__" : Str)) = false := by decide) (hcd : (a == ("__classdict__" : Str)) = false := by decide) :
    PE X (.Call (.Name x p) [.Lambda params body scope lpos] [] pos) (tLam T TT t) := by
  refine ⟨fun pins s σ H Q I h => ?_⟩
  obtain ⟨hT, h⟩ := h
  refine wpAny_Call_Name_kw (ld_glob I hg hm ?_ hdb)
  refine PySem.W.callWith_K (h₀ := X.base) I.ok.mod.kin hk ?_ (by rfl) (by rfl)
  show wpAny _ _ (spliced ((false, eval (.Lambda params body scope lpos) X.env) :: backTo pos (starEach [] X.env))) _ _ s
  refine Calls.spliced_cons (lam_make3 I TB hcode hmT hu hT hdef hkw (L.has I.ok) fun f c' D pm' ctv td H1 s' I1 eN T1 hf hfn hfr hD hDn hDr hco => ?_)
  refine Calls.spliced_nil ⟨I1.kIn, ?_⟩
  have rc : codeAny (model X.prog X.w) X.A (.call (.ref g) ⟨[.ref f], []⟩) (CR C8.CX0 X.stack X.prog X.w H1 s' Q C8.E0) s' := by
    refine run_ofS (N := Ng) (ps := [a]) (us := [.ref f]) (vs := [.ref f]) lk hcg Sg hr I1.env0 (hb s' [.ref f] I1.kIn rfl) (.cons rfl .nil) rfl fun hr' => ?_
    obtain ⟨t', ht', hq'⟩ := hG f c' s' H1 Q (fun E H' Q' => t E σ H' Q') (fun W pn xe E p1 p2 tk hW => pe_act3 (i := 0) I1 L hf hfn hfr hD hDn hDr (hbind _ _ _ _ _ _ _) tk hW hr' (fun A outer s H hr2 => hbody A outer s H E f c' hr2) hNg hva hd hcd) hco (h H1 eN T1)
    exact ⟨t', ht'.nox, hq'⟩
  refine wpAny_call (codeAny_mono rc fun r s2 hq => ?_)
  cases r with
  | error e => exact (show False from hq).elim
  | ok fl =>
    cases fl with
    | ret u => exact I1.after hq
    | next => exact False.elim hq
    | brk => exact False.elim hq
    | cont => exact False.elim hq
end
end K6
end
section -- KLam4
set_option maxHeartbeats 4000000
/-! Lambdas handed to a def that looks at what they raise: the slots at the raising are those at the call. -/
namespace K6
open PySem PySem.Spec PyProof.Rows L2 LamX
/-- the def that calls what it got, with a wish for what is raised by the slots at the call -/
def GivesS (X : Cx) (Ng : List Str) (x : Str) (sg : Scope) (g : Addr) (cdg : Value) (bg : List Stmt) (a : Str) (q : Str) (TT : (XK → Hp → VK → Prop) → Hp → VK → Prop) : Prop :=
  ∀ (f c' : Addr) (s : Shared) (H : Hp) (Q : VK) (tl : XK → Hp → VK → Prop),
    (∀ (W : WX) (pn : List (Addr × Obj)) (xe : Value → Shared → Prop) (p1 p2 : Pos), Takes ((cxOf C8.CX0 X.prog X.w X.K X.mg X.base Ng x sg g cdg X.A X.stack s H C8.E0).tr pn xe) W →
      PE ((cxOf C8.CX0 X.prog X.w X.K X.mg X.base Ng x sg g cdg X.A X.stack s H C8.E0).tr pn xe) (.Call (.Name a p1) [] [] p2) (fun σZ HZ Q => σZ[0]? = some (some (.ref f)) ∧ HZ c' = some (CodeO c' q) ∧ ∃ E : XK, (∀ cls d H', E cls d H' → W cls d σZ H') ∧ tl E HZ Q)) →
    H c' = some (CodeO c' q) → TT tl H Q →
    ∃ t, PSs (cxOf C8.CX0 X.prog X.w X.K X.mg X.base Ng x sg g cdg X.A X.stack s H C8.E0).nox bg t ∧ t { nx := fun _ H' => Q .non H', rt := Q } (L2.start Ng [.ref f]) H
section
variable {X : Cx} {pins : List (Addr × Obj)} {σ : L2.St} {H HZ : Hp} {s s1 : Shared}
/-- x(), in the def that got the lambda without parameters -/
theorem pe_act0S {CXg : CXT} {Eg : XK} {Ng : List Str} {qg : Str} {sg : Scope} {g f c' : Addr} {cdg pm ctv : Value} {params : Arguments} {body : Expr} {scope : Scope} {k i : Nat} {a : Str} {pn : List (Addr × Obj)} {xe : Value → Shared → Prop} {W : WX} {tb : XK → TE} {p1 p2 : Pos}
    (I : Inv X pins σ H s) (L : LamS X.env.scope scope) (hf : s.heap.get? f = some (PySem.W.kla_obj "<lambda>" (X.env.qual ++ "<lambda>") params body scope (cloFrom X.env.cells scope.names []) pm c' ctv)) (hfn : H f = none) (hfr : f ∉ frs X.stack)
    (hbind : bindArgs (PySem.W.kla_fn "<lambda>" (X.env.qual ++ "<lambda>") params body scope (cloFrom X.env.cells scope.names []) pm (.ref c') ctv) ⟨[], []⟩ = pure [])
    (tk : Takes ((cxOf CXg X.prog X.w X.K X.mg X.base Ng qg sg g cdg X.A X.stack s H Eg).tr pn xe) W) (hr : Room (k + 1) (X.A.deeper (envOfC qg sg s.heap.objs.size g cdg)))
    (hbody : ∀ (A : Around) (outer : List Env) (s : Shared) (H : Hp) (E : XK), Room k (A.deeper (lamEnv X scope s.heap.objs.size f c')) → PE (lamCx X A outer s H E scope f c') body (tb E))
    (hN : Ng[i]? = some a) (hv : Vis sg a) (hd : (a == ("__debug__" : Str)) = false := by decide) (hcd : (a == ("__classdict__" : Str)) = false := by decide) :
    PE ((cxOf CXg X.prog X.w X.K X.mg X.base Ng qg sg g cdg X.A X.stack s H Eg).tr pn xe) (.Call (.Name a p1) [] [] p2)
      (fun σZ HZ Q => σZ[i]? = some (some (.ref f)) ∧ HZ c' = some (CodeO c' (X.env.qual ++ "<lambda>")) ∧ ∃ E : XK, (∀ cls d H', E cls d H' → W cls d σZ H') ∧ tb E σ HZ Q) := by
  refine ⟨fun pinsZ sZ σZ HZ Q IZ h => ?_⟩
  obtain ⟨hs, hc, E, hW, ht⟩ := h
  have var := (pe_var (pos := p1) (i := i) hN hv hd hcd).run pinsZ sZ σZ HZ (fun v H1 => v = .ref f ∧ H1 = HZ) IZ ⟨.ref f, hs, rfl, rfl⟩
  refine wpAny_Call_Name_kw (thn var fun u s1 ⟨v, H1, I1, r1, ev, eH⟩ => ?_)
  subst ev
  rw [eH] at I1
  obtain rfl : u = Value.ref f := r1
  have of1 := I1.base.keep f _ hf hfn hfr (show f ∉ ([] : List Addr) from fun z => nomatch z)
  refine PySem.W.callWith_F0 ⟨_, _, _, _, of1⟩ ?_
  have un : Un (frs X.stack) [] H HZ s.heap s1.heap := I1.base
  obtain ⟨⟨oc, vs, t, hoc, hdc, hvc⟩, _, _⟩ := I1.hok c' _ hc
  have rc : codeAny (model X.prog X.w) (X.A.deeper (envOfC qg sg s.heap.objs.size g cdg)) (.call (.ref f) ⟨[], []⟩) (CR (L2.CX X.prog X.w) (envOfC qg sg s.heap.objs.size g cdg :: X.stack) X.prog X.w HZ s1 Q E) s1 := by
    refine PySem.W.kla_callFunE hr.depth of1 rfl L.co L.gen rfl ⟨c', oc, vs, t, rfl, hoc, hdc, hvc⟩ ?_
    rw [hbind]
    have nloc : ∀ y ∈ ([] : List (Str × Value)), scope.names.lookup y.1 = some .local := fun y hy => absurd hy (by simp)
    refine wpAny_pure (wpAny_newFunctionEnv (fun y hy => (L.own y hy).2) nloc (fun h₁ hns hsb => ⟨I1.nolimit.fresh _ hsb, ?_⟩) L.kind)
    show codeAny _ _ (.expr body (lamEnv X scope s1.heap.objs.size f c')) _ _
    have kp : ∀ b o, s1.heap.get? b = some o → h₁.get? b = some o := fun b o e => hsb.extBut b o (Nat.ne_of_lt (Heap.lt_size e)) (Heap.get?_push_of_some _ e)
    have J := lam_start2 (E := E) (f := f) (c' := c') (tk := s1.toks + ([] : List (Str × Value)).length) I L I1.env0 hr.hd un hns kp
    refine PySem.W.kla_codeExpr (wpAny_mono ((hbody _ _ s1 HZ E (hr.deeper _)).run [] _ _ HZ Q J ht) (fun v s' hq => ?_) fun e s' hq => hq)
    obtain ⟨w', H', J', rv, q⟩ := hq
    exact ⟨w', H', J'.os, J'.bare, J'.base, J'.hok, rv, q⟩
  refine wpAny_call (codeAny_mono rc fun r s' hq => ?_)
  cases r with
  | error e => exact tk e s' (XE.of_call I1 hW hq)
  | ok fl =>
    cases fl with
    | ret u => exact I1.after hq
    | _ => exact False.elim hq
/-- x(), in the def that got the lambda with a default -/
theorem pe_act3S {CXg : CXT} {Eg : XK} {Ng : List Str} {qg : Str} {sg : Scope} {g f c' D : Addr} {cdg pm ctv v : Value} {params : Arguments} {body : Expr} {scope : Scope} {k i : Nat} {a b : Str} {pn : List (Addr × Obj)} {xe : Value → Shared → Prop} {W : WX} {tb : XK → TE} {p1 p2 : Pos}
    (I : Inv X pins σ H s) (L : Lam3S X.N X.env.scope scope b) (hf : s.heap.get? f = some (lobj (X.env.qual ++ "<lambda>") params body scope (cloFrom X.env.cells scope.names []) (.ref D) pm (.ref c') ctv)) (hfn : H f = none) (hfr : f ∉ frs X.stack)
    (hD : s.heap.get? D = some (oneTup v)) (hDn : H D = none) (hDr : D ∉ frs X.stack)
    (hbind : ∃ kk, bindArgs (lfd (X.env.qual ++ "<lambda>") params body scope (cloFrom X.env.cells scope.names []) (.ref D) pm (.ref c') ctv) ⟨[], []⟩ = seqItems? (.ref D) >>= kk ∧ kk (some ([v] : List Value).toArray) = pure [(b, v)])
    (tk : Takes ((cxOf CXg X.prog X.w X.K X.mg X.base Ng qg sg g cdg X.A X.stack s H Eg).tr pn xe) W) (hr : Room (k + 1) (X.A.deeper (envOfC qg sg s.heap.objs.size g cdg)))
    (hbody : ∀ (A : Around) (outer : List Env) (s : Shared) (H : Hp) (E : XK), Room k (A.deeper (lamEnv X scope s.heap.objs.size f c')) → PE (lamCx X A outer s H E scope f c') body (tb E))
    (hN : Ng[i]? = some a) (hv : Vis sg a) (hd : (a == ("__debug__" : Str)) = false := by decide) (hcd : (a == ("__classdict__" : Str)) = false := by decide) :
    PE ((cxOf CXg X.prog X.w X.K X.mg X.base Ng qg sg g cdg X.A X.stack s H Eg).tr pn xe) (.Call (.Name a p1) [] [] p2)
      (fun σZ HZ Q => σZ[i]? = some (some (.ref f)) ∧ HZ c' = some (CodeO c' (X.env.qual ++ "<lambda>")) ∧ ∃ E : XK, (∀ cls d H', E cls d H' → W cls d σZ H') ∧ tb E σ HZ Q) := by
  refine ⟨fun pinsZ sZ σZ HZ Q IZ h => ?_⟩
  obtain ⟨hs, hc, E, hW, ht⟩ := h
  have var := (pe_var (pos := p1) (i := i) hN hv hd hcd).run pinsZ sZ σZ HZ (fun v H1 => v = .ref f ∧ H1 = HZ) IZ ⟨.ref f, hs, rfl, rfl⟩
  refine wpAny_Call_Name_kw (thn var fun u s1 ⟨v1, H1, I1, r1, ev, eH⟩ => ?_)
  subst ev
  rw [eH] at I1
  obtain rfl : u = Value.ref f := r1
  have nx : ∀ b : Addr, b ∉ ([] : List Addr) := fun _ z => nomatch z
  have of1 := I1.base.keep f _ hf hfn hfr (nx f)
  have oD1 := I1.base.keep D _ hD hDn hDr (nx D)
  refine PySem.W.callWith_F0 ⟨_, _, _, _, of1⟩ ?_
  have un : Un (frs X.stack) [] H HZ s.heap s1.heap := I1.base
  obtain ⟨⟨oc, vs, t, hoc, hdc, hvc⟩, _, _⟩ := I1.hok c' _ hc
  have rc : codeAny (model X.prog X.w) (X.A.deeper (envOfC qg sg s.heap.objs.size g cdg)) (.call (.ref f) ⟨[], []⟩) (CR (L2.CX X.prog X.w) (envOfC qg sg s.heap.objs.size g cdg :: X.stack) X.prog X.w HZ s1 Q E) s1 := by
    refine PySem.W.kla_callFunE hr.depth of1 rfl L.co L.gen rfl ⟨c', oc, vs, t, rfl, hoc, hdc, hvc⟩ ?_
    obtain ⟨kk, hb1, hb2⟩ := hbind
    rw [hb1]
    refine wpAny_bind (wpAny_seqItems oD1 rfl ?_)
    rw [hb2]
    have nloc : ∀ y ∈ ([(b, v)] : List (Str × Value)), scope.names.lookup y.1 = some .local := fun y hy => by
      have e : y = (b, v) := by simpa using hy
      rw [e]
      exact L.par
    refine wpAny_pure (wpAny_newFunctionEnv (fun y hy => (L.own y hy).1) nloc (fun h₁ hns hsb => ⟨I1.nolimit.fresh _ hsb, ?_⟩) L.kind)
    show codeAny _ _ (.expr body (lamEnv X scope s1.heap.objs.size f c')) _ _
    have kp : ∀ b o, s1.heap.get? b = some o → h₁.get? b = some o := fun b o e => hsb.extBut b o (Nat.ne_of_lt (Heap.lt_size e)) (Heap.get?_push_of_some _ e)
    have J := lam_start3 (E := E) (f := f) (c' := c') (tk := s1.toks + ([(b, v)] : List (Str × Value)).length) I L I1.env0 hr.hd un hns kp
    refine PySem.W.kla_codeExpr (wpAny_mono ((hbody _ _ s1 HZ E (hr.deeper _)).run [] _ _ HZ Q J ht) (fun v s' hq => ?_) fun e s' hq => hq)
    obtain ⟨w', H', J', rv, q⟩ := hq
    exact ⟨w', H', J'.os, J'.bare, J'.base, J'.hok, rv, q⟩
  refine wpAny_call (codeAny_mono rc fun r s' hq => ?_)
  cases r with
  | error e => exact tk e s' (XE.of_call I1 hW hq)
  | ok fl =>
    cases fl with
    | ret u => exact I1.after hq
    | _ => exact False.elim hq
end
section
variable {X : Cx}
/-- what the rules ask of the def g that gets the lambda -/
structure Getter (X : Cx) (x a : Str) (g : Addr) (Ng : List Str) (sg : Scope) (q : Str) (TT : (XK → Hp → VK → Prop) → Hp → VK → Prop) : Prop where
  ex : ∃ (pg : Arguments) (bg : List Stmt) (dV kV doc pm cdv ct oc : Value) (an od : Option Addr) (osl : Array (Option Value)), X.K.lookup g = some ⟨oc, od, .func (PySem.W.fnOf x x pg bg sg dV kV doc pm an cdv ct), osl⟩ ∧ PySem.W.codeIn X.K cdv x = true ∧ L2.Binds X.K (PySem.W.fnOf x x pg bg sg dV kV doc pm an cdv ct) [a] [] ∧ GivesS X Ng x sg g cdv bg a q TT
  kp : PySem.W.keepIn X.K (.ref g) = true
  mg : X.mg x = some (.ref g)
  sc : FnScope Ng [a] sg
  n0 : Ng[0]? = some a
  va : Vis sg a
/-- what the rules ask of the maker's table -/
structure Tabled (X : Cx) (T : List (Addr × Str)) (c P : Addr) : Prop where
  tb : TabB X.base X.mg c P
  code : X.env.code = .ref c
  mem : (P, X.env.qual ++ "<lambda>") ∈ T
  only : ∀ p ∈ T, p.1 = P → p.2 = X.env.qual ++ "<lambda>"
theorem pe_lam0S {T : List (Addr × Str)} {TT : (XK → Hp → VK → Prop) → Hp → VK → Prop} {x a : Str} {g c P : Addr} {k : Nat} {sg : Scope} {Ng : List Str} {params : Arguments} {body : Expr} {scope : Scope} {t : XK → TE} {p lpos pos : Pos}
    (G : Getter X x a g Ng sg (X.env.qual ++ "<lambda>") TT) (B : Tabled X T c P) (hr : Room (k + 2) X.A) (L : LamS X.env.scope scope)
    (hbody : ∀ (A : Around) (outer : List Env) (s : Shared) (H : Hp) (E : XK) (f c' : Addr), Room k (A.deeper (lamEnv X scope s.heap.objs.size f c')) → PE (lamCx X A outer s H E scope f c') body (t E))
    (hg : Gl X x := by rfl) (hdef : defaultsOf params X.env = ([], []) := by rfl)
    (hbind : ∀ (q : Str) (cl : List (Str × Addr)) (pm cv ctv : Value), bindArgs (PySem.W.kla_fn "<lambda>" q params body scope cl pm cv ctv) ⟨[], []⟩ = pure [] := by intros; rfl)
    (hdb : (x == ("__debug__" : Str)) = false := by decide) (hd : (a == ("__debug__" : Str)) = false := by decide) (hcd : (a == ("__classdict__" : Str)) = false := by decide) :
    PE X (.Call (.Name x p) [.Lambda params body scope lpos] [] pos) (tLam T TT t) := by
  refine ⟨fun pins s σ H Q I h => ?_⟩
  obtain ⟨hT, h⟩ := h
  obtain ⟨pg, bg, dV, kV, doc, pm, cdv, ct, oc, an, od, osl, lk, hcg, hb, hG⟩ := G.ex
  refine wpAny_Call_Name_kw (ld_glob I hg G.mg ?_ hdb)
  refine PySem.W.callWith_K (h₀ := X.base) I.ok.mod.kin G.kp ?_ (by rfl) (by rfl)
  show wpAny _ _ (spliced ((false, eval (.Lambda params body scope lpos) X.env) :: backTo pos (starEach [] X.env))) _ _ s
  refine Calls.spliced_cons (lam_make2 I B.tb B.code B.mem B.only hT hdef (L.has I.ok) fun f c' pm' ctv H1 s' I1 eN T1 hf hfn hfr hco => ?_)
  refine Calls.spliced_nil ⟨I1.kIn, ?_⟩
  have rc : codeAny (model X.prog X.w) X.A (.call (.ref g) ⟨[.ref f], []⟩) (CR C8.CX0 X.stack X.prog X.w H1 s' Q C8.E0) s' := by
    refine run_ofS (N := Ng) (ps := [a]) (us := [.ref f]) (vs := [.ref f]) lk hcg G.sc hr I1.env0 (hb s' [.ref f] I1.kIn rfl) (.cons rfl .nil) rfl fun hr' => ?_
    obtain ⟨t', ht', hq'⟩ := hG f c' s' H1 Q (fun E H' Q' => t E σ H' Q') (fun W pn xe p1 p2 tk => pe_act0S (i := 0) I1 L hf hfn hfr (hbind _ _ _ _ _) tk hr' (fun A outer s H E hr2 => hbody A outer s H E f c' hr2) G.n0 G.va hd hcd) hco (h H1 eN T1)
    exact ⟨t', ht'.nox, hq'⟩
  refine wpAny_call (codeAny_mono rc fun r s2 hq => ?_)
  cases r with
  | error e => exact (show False from hq).elim
  | ok fl =>
    cases fl with
    | ret u => exact I1.after hq
    | _ => exact False.elim hq
theorem pe_lam3S {T : List (Addr × Str)} {TT : (XK → Hp → VK → Prop) → Hp → VK → Prop} {x a b : Str} {g c P : Addr} {k : Nat} {sg : Scope} {Ng : List Str} {params : Arguments} {body : Expr} {scope : Scope} {t : XK → TE} {p lpos pos dp : Pos} {i : Int} {j : Nat}
    (G : Getter X x a g Ng sg (X.env.qual ++ "<lambda>") TT) (B : Tabled X T c P) (hr : Room (k + 2) X.A) (L : Lam3S X.N X.env.scope scope b)
    (hdef : defaultsOf params X.env = ([eval (.Constant (.int i) j dp) X.env], [])) (hkw : params.kwonlyargs = [])
    (hbind : ∀ (q : Str) (cl : List (Str × Addr)) (D : Addr) (pm cv ctv v : Value), ∃ kk, bindArgs (lfd q params body scope cl (.ref D) pm cv ctv) ⟨[], []⟩ = seqItems? (.ref D) >>= kk ∧ kk (some ([v] : List Value).toArray) = pure [(b, v)])
    (hbody : ∀ (A : Around) (outer : List Env) (s : Shared) (H : Hp) (E : XK) (f c' : Addr), Room k (A.deeper (lamEnv X scope s.heap.objs.size f c')) → PE (lamCx X A outer s H E scope f c') body (t E))
    (hg : Gl X x := by rfl)
    (hdb : (x == ("__debug__" : Str)) = false := by decide) (hd : (a == ("__debug__" : Str)) = false := by decide) (hcd : (a == ("__classdict__" : Str)) = false := by decide) :
    PE X (.Call (.Name x p) [.Lambda params body scope lpos] [] pos) (tLam T TT t) := by
  refine ⟨fun pins s σ H Q I h => ?_⟩
  obtain ⟨hT, h⟩ := h
  obtain ⟨pg, bg, dV, kV, doc, pm, cdv, ct, oc, an, od, osl, lk, hcg, hb, hG⟩ := G.ex
  refine wpAny_Call_Name_kw (ld_glob I hg G.mg ?_ hdb)
  refine PySem.W.callWith_K (h₀ := X.base) I.ok.mod.kin G.kp ?_ (by rfl) (by rfl)
  show wpAny _ _ (spliced ((false, eval (.Lambda params body scope lpos) X.env) :: backTo pos (starEach [] X.env))) _ _ s
  refine Calls.spliced_cons (lam_make3 I B.tb B.code B.mem B.only hT hdef hkw (L.has I.ok) fun f c' D pm' ctv td H1 s' I1 eN T1 hf hfn hfr hD hDn hDr hco => ?_)
  refine Calls.spliced_nil ⟨I1.kIn, ?_⟩
  have rc : codeAny (model X.prog X.w) X.A (.call (.ref g) ⟨[.ref f], []⟩) (CR C8.CX0 X.stack X.prog X.w H1 s' Q C8.E0) s' := by
    refine run_ofS (N := Ng) (ps := [a]) (us := [.ref f]) (vs := [.ref f]) lk hcg G.sc hr I1.env0 (hb s' [.ref f] I1.kIn rfl) (.cons rfl .nil) rfl fun hr' => ?_
    obtain ⟨t', ht', hq'⟩ := hG f c' s' H1 Q (fun E H' Q' => t E σ H' Q') (fun W pn xe p1 p2 tk => pe_act3S (i := 0) I1 L hf hfn hfr hD hDn hDr (hbind _ _ _ _ _ _ _) tk hr' (fun A outer s H E hr2 => hbody A outer s H E f c' hr2) G.n0 G.va hd hcd) hco (h H1 eN T1)
    exact ⟨t', ht'.nox, hq'⟩
  refine wpAny_call (codeAny_mono rc fun r s2 hq => ?_)
  cases r with
  | error e => exact (show False from hq).elim
  | ok fl =>
    cases fl with
    | ret u => exact I1.after hq
    | _ => exact False.elim hq
end
end K6
end
section -- KSup
set_option maxHeartbeats 4000000
/-! A method whose first statement is super().__init__(..): over an own base class, or over ValueError. -/
namespace K6
open PySem PySem.Spec PyProof.Rows L2 LamX NdefX
/-- what the written part says of a method that names super() -/
structure SupF (K : PySem.W.Frag) (P : Program) (D cc cda : Addr) : Prop where
  cell : ∃ cl cld csl, K.lookup cc = some ⟨cl, cld, .cell (some (.ref D)), csl⟩
  cls : ∃ cd, PySem.W.clsIn K D = some cd
  code : ∃ ccl cdd vs ccs file tf, K.lookup cda = some ⟨ccl, cdd, .fields vs, ccs⟩ ∧ vs[2]? = some (.str file tf) ∧ ((P.main.file : Str) == file) = true
  sup : PySem.W.nsIn K mainGlobals "super" = some none
  opq : PySem.W.nsIn K cStatics "thirdparty.any" = some none
  top : (P.main.scope.names.lookup ("super" : Str)).isSome = false
theorem boot_super : bootBuiltins "super" = some (.type "super") := by decide +kernel
section
variable {CX : CXT} {P : Program} {w : World} {K : PySem.W.Frag} {mg : Str → Option Value} {base : Heap} {N ps : List Str} {F : NF} {f : Addr} {A : Around} {outer : List Env} {s : Shared} {H : Hp} {E : XK} {us : List Value} {vs : List V} {ws : List (Option V)}
theorem cells_sup {D cc cda : Addr} (e0 : Env0 P w K mg base A outer s H) (S : SupF K P D cc cda) : CellsAt ([(("__class__" : Str), cc)] : List (Str × Addr)) ["__class__"] [some (.ref D)] s.heap H := by
  obtain ⟨cl, cld, csl, hcc⟩ := S.cell
  have hb : base.get? cc = some ⟨cl, cld, .cell (some (.ref D)), csl⟩ := e0.mod.kin _ _ hcc
  obtain ⟨hh, hn⟩ := e0.bs _ _ hb
  have only : ∀ y c, ([("__class__", cc)] : List (Str × Addr)).lookup y = some c → y = "__class__" ∧ c = cc := fun y c e => by
    have h := PySem.mem_of_lookup e
    simpa using h
  refine ⟨rfl, fun y c e => ?_, fun x y c e1 e2 => ?_, fun i y hi => ?_⟩
  · obtain ⟨_, rfl⟩ := only y c e
    exact ⟨hn, _, _, hh, rfl⟩
  · rw [(only x c e1).1, (only y c e2).1]
  · cases i with
    | zero =>
      have e : y = "__class__" := by simpa using hi.symm
      subst e
      exact ⟨cc, by simp [List.lookup], fun v hv => ⟨.ref D, by
        have e : v = V.ref D := by simpa using hv.symm
        rw [e]
        rfl, _, hh, rfl⟩⟩
    | succ i => simp at hi
/-- super() at the head of a method's body: the instance at x, of a class at C below D -/
theorem sup_node {body : List Stmt} {p0 p1 : Pos} {whole : Sem Value} {fd : FuncData} {ar : Arg} {D cc C x : Addr} {oc : Value} {od : Option Addr} {osl : Array (Option Value)} {ox : Obj} {pins : List (Addr × Obj)} {σ : L2.St} {H1 : Hp} {s1 : Shared} {Q : Value → Shared → Prop} {Ex : Value → Shared → Prop}
    (S : SupF K P D cc F.c) (hF : F.cl = ([(("__class__" : Str), cc)] : List (Str × Addr))) (I : Inv (ncx CX P w K mg base N F f A outer s H E) pins σ H1 s1) (hf : K.lookup f = some ⟨oc, od, .func fd, osl⟩) (hp : (fd.params.posonlyargs ++ fd.params.args).head? = some ar) (i : Nat) (hN : N[i]? = some ar.arg) (hσ : σ[i]? = some (some (.ref x)))
    (hx : s1.heap.get? x = some ox) (hxc : ox.cls = .ref C) (hnc : ∀ c, ox.data ≠ .cls c) (hsub : PySem.W.mroIn K C (.ref D) = some true)
    (hks : F.scope.names.lookup ("super" : Str) = some .globalImplicit) (hkc : F.scope.names.lookup ("__class__" : Str) = some .free) (hka : F.scope.names.lookup ar.arg = some .local)
    (h : ∀ so h', h'.get? so = some (PySem.W.ks_superObj D x C) → s1.heap.objs.size ≤ so → (∀ b o, s1.heap.get? b = some o → h'.get? b = some o) → Q (.ref so) { s1 with heap := h' }) :
    PySem.wpAt (model P w) (A.deeper (envF F f s.heap.objs.size)) (.func body (envF F f s.heap.objs.size)) (attributeBase (.Call (.Name "super" p0) [] [] p1) "__init__" (envF F f s.heap.objs.size) whole) Q Ex s1 := by
  have X : K.In s1.heap := I.kIn
  obtain ⟨cl, cld, csl, hcc⟩ := S.cell
  obtain ⟨cdD, hD⟩ := S.cls
  obtain ⟨ccl, cdd, vs', ccs, file, tf, hcode, hvs, hfile⟩ := S.code
  obtain ⟨mb, hb1, hb2⟩ := I.mod.blt
  obtain ⟨m, hn, hl⟩ := I.loc
  have hv : m ar.arg = some (.ref x) := by
    obtain ⟨u, ru, q⟩ := hl i ar.arg (.ref x) hN hσ (.inl hka)
    obtain rfl : u = Value.ref x := ru
    rcases q with ⟨_, q⟩ | ⟨k, _⟩
    · exact q
    · have k0 : F.scope.names.lookup ar.arg = some .local := hka
      rcases k with k | k
      · have k1 : F.scope.names.lookup ar.arg = some .cell := k
        rw [k0] at k1
        cases k1
      · have k1 : F.scope.names.lookup ar.arg = some .free := k
        rw [k0] at k1
        cases k1
  have kind : F.scope.kind = .function := I.ok.kind
  have mgn : mg "super" = none := PySem.W.mg_none_of I.mod.kin I.mod.glob S.sup
  have bk := I.bk
  obtain ⟨hh, g, d, t, os⟩ := s1
  obtain ⟨oD, hD1, hD2⟩ : ∃ oD, hh.get? D = some oD ∧ oD.data = .cls cdD := by
    unfold PySem.W.clsIn at hD
    split at hD
    · rename_i c d cd' sl ho
      cases hD
      exact ⟨_, X _ _ ho, rfl⟩
    · cases hD
  refine ks_wpAt_super_base (env := envF F f s.heap.objs.size) hks hkc (by decide +kernel) rfl (X _ _ hf) rfl hp rfl (X _ _ hcode) rfl hvs hfile S.top ?_
  refine PySem.W.ks_loadName_global kind hks (Calls.loadGlobal_builtin (env := envF F f s.heap.objs.size) (I.mod.glob.keeps bk) mgn (hb1.keeps bk) ((hb2 _ (by decide +kernel)).trans boot_super) ⟨rfl, ?_⟩)
  refine wpAny_loadName_free kind hkc (by show F.cl.lookup _ = _; rw [hF] <;> rfl) ⟨_, X _ _ hcc, rfl⟩ ?_
  refine wpAny_loadName_local kind hka hn hv ?_
  refine ks_wpAny_isType_cls hD1 hD2 ⟨rfl, ?_⟩
  refine ks_wpAny_call_super hD1 hD2 hx hxc hnc (PySem.W.looks_mroIn X hsub) (fun h' e k => ?_)
  exact h _ _ e (Nat.le_refl _) k
end
section
variable {CX : CXT} {P : Program} {w : World} {K : PySem.W.Frag} {mg : Str → Option Value} {base : Heap} {N ps : List Str} {F : NF} {f : Addr} {k k2 : Nat} {sp spB : Sp} {D cc C f2 : Addr} {oc dV kV doc pm ct : Value} {od an : Option Addr} {osl : Array (Option Value)} {ar : Arg} {e : Expr} {es : List Expr} {rest : List Stmt}
  {p0 p1 p2 p3 p4 : Pos}
theorem not_inter {L : Addr} (h : F.scope.kind = .function) : interactive (envF F f L) = false := by
  unfold interactive
  rw [show (envF F f L).scope.kind = .function from h] <;> rfl
/-- the reading of such a body: the instance, the arguments, the base's promise, the rest -/
def SupR (K : PySem.W.Frag) (C : Addr) (spB : Sp) (ta : TA) (t : TS) (σ : L2.St) (vs : List V) (H : Hp) (Q : VK) (E : XK) : Prop :=
  ∃ (x dx : Addr) (fs : List (Str × V)), vs[0]? = some (.ref x) ∧ H x = some (.ins C dx fs) ∧ ta σ H fun ys H1 => spB (.ref x :: ys) H1 (fun _ H2 => t { nx := fun _ H' => Q .non H', rt := Q } σ H2) E
theorem fn_supA (lk : K.lookup f = some ⟨oc, od, .func (PySem.W.fnX F.name F.qual F.params F.body F.scope F.cl dV kV doc pm an (.ref F.c) ct), osl⟩) (hcd : PySem.W.codeIn K (.ref F.c) F.qual = true) (hF : F.cl = ([(("__class__" : Str), cc)] : List (Str × Addr)))
    (SF : SupF K P D cc F.c) (S : NScope N ps ["__class__"] F.scope) (hB : F.body = .Expr (.Call (.Attribute (.Call (.Name "super" p0) [] [] p1) "__init__" p2) (e :: es) [] p3) p4 :: rest)
    (len : ∀ vs H Q E, sp vs H Q E → vs.length = ps.length) (hp : (F.params.posonlyargs ++ F.params.args).head? = some ar) (h0 : N[0]? = some ar.arg) (hps : 0 < ps.length)
    (hks : F.scope.names.lookup ("super" : Str) = some .globalImplicit) (hkc : F.scope.names.lookup ("__class__" : Str) = some .free) (hka : F.scope.names.lookup ar.arg = some .local)
    (hsub : PySem.W.mroIn K C (.ref D) = some true) (hm : PySem.W.ks_superIn K C D "__init__" = some (some (.ref f2))) (ht : PySem.W.typeIn K (.ref f2) = some (.type "function")) (hfi : PySem.W.fnIn K f2 = true)
    {pl : Addr → Sem Bool} (F2 : FnR P w K mg base CX k2 f2 spB) (hk : k2 ≤ k) (hx : ∀ A outer s H E, Passes CX (ncx CX P w K mg base N F f A outer s H E) E)
    (hbody : ∀ (A : Around) (outer : List Env) (s : Shared) (H : Hp) (vs : List V) (Q : VK) (E : XK), Room k (A.deeper (envF F f s.heap.objs.size)) → sp vs H Q E →
      ∃ ta t, PA (ncx CX P w K mg base N F f A outer s H E) (e :: es) ta ∧ PSs (ncx CX P w K mg base N F f A outer s H E) rest t ∧ SupR K C spB ta t (startF N vs [some (.ref D)]) vs H Q E)
    (hex : ∀ L, eval (.Call (.Attribute (.Call (.Name "super" p0) [] [] p1) "__init__" p2) (e :: es) [] p3) (envF F f L) = (do
      let ov ← attributeBase (.Call (.Name "super" p0) [] [] p1) "__init__" (envF F f L) (eval (.Call (.Name "super" p0) [] [] p1) (envF F f L))
      standAt p2.atName
      let (g, first) ← holding [ov] (getMethod ov "__init__" (pl L))
      callWith p3 g first (backTo p3 (starEach (e :: es) (envF F f L))) []) := by intro L; rfl)
    (he : ∀ L, starEach (e :: es) (envF F f L) = (false, eval e (envF F f L)) :: starEach es (envF F f L) := by intro L; rfl) (hpl : ∀ L, (backTo p3 (starEach es (envF F f L))).any (·.1) = false := by intro L; rfl) :
    FnOk P w K mg base CX (k + 1) f (PySem.W.fnX F.name F.qual F.params F.body F.scope F.cl dV kV doc pm an (.ref F.c) ct) ps sp := by
  refine ⟨len, fun A outer s H args us vs Q E hr e0 hb r hsp => ?_⟩
  have hl := len _ _ _ _ hsp
  have KX : K.In s.heap := e0.mod.kin.keeps fun b o e => (e0.bs b o e).1
  have lim : s.heap.NoLimit := e0.mod.nolimit.keeps fun b o e => (e0.bs b o e).1
  refine codeAny_call_function hr.depth (KX _ _ lk) rfl S.co S.gen rfl (PySem.W.codeRec_of KX hcd) (hb _ _ _ _ ?_)
  refine wpAny_newFunctionEnv S.nocell (fun ⟨n, _⟩ hy => S.par n (List.of_mem_zip hy).1) (fun h₁ hns hsb => ⟨lim.fresh _ hsb, ?_⟩) S.kind
  show codeAny _ _ (.func F.body (envF F f s.heap.objs.size)) _ _
  have kp : ∀ b o, s.heap.get? b = some o → h₁.get? b = some o := fun b o e => hsb.extBut b o (Nat.ne_of_lt (Heap.lt_size e)) (Heap.get?_push_of_some _ e)
  have C0 : CellsAt F.cl ["__class__"] [some (.ref D)] s.heap H := by
    rw [hF]
    exact cells_sup e0 SF
  have I : Inv (ncx CX P w K mg base N F f A outer s H E) [] (startF N vs [some (.ref D)]) H { s with heap := h₁, toks := s.toks + (ps.zip us).length } := inv_startN S hr.hd e0 hl r C0 hns kp
  obtain ⟨ta, t, hta, ht2, x, dx, fs, hvx, hxi, hq⟩ := hbody A outer s H vs Q E (hr.deeper _) hsp
  have hr2 : Room k2 (A.deeper (envF F f s.heap.objs.size)) := (hr.deeper _).mono hk
  have hσ : (startF N vs [some (.ref D)])[0]? = some (some (.ref x)) := by
    unfold startF
    have lv : 0 < vs.length := by omega
    rw [List.getElem?_append_left (by rw [List.length_map]; exact lv), List.getElem?_map, hvx] <;> rfl
  refine ks_codeAny_funcAt ?_
  rw [hB]
  obtain ⟨mA, O, _, _, _, _⟩ := ins_get I.hok hxi
  obtain ⟨hob, hns1, _⟩ := O
  refine ks_wpAt_execs_cons (ks_wpAt_Expr_any (ks_wpAt_MethodCall (pl := pl s.heap.objs.size) (sup_node (i := 0) SF hF I lk hp h0 hσ hob rfl (fun c z => by cases z) hsub hks hkc hka fun so h2 hso hsz k2' => ?_) (hex _)) (not_inter S.kind))
  have I2 : Inv (ncx CX P w K mg base N F f A outer s H E) [] (startF N vs [some (.ref D)]) H ⟨h2, s.gens, s.drawn, s.toks + (ps.zip us).length, s.os⟩ := I.kept k2'
  have X2 : K.In h2 := I2.kIn
  have hx2 : h2.get? x = some (PySem.W.instObj C dx) := k2' _ _ hob
  obtain ⟨cd, hcls⟩ : ∃ cd, PySem.W.clsIn K C = some cd := by
    cases z : PySem.W.clsIn K C with
    | none =>
      unfold PySem.W.ks_superIn at hm
      rw [z] at hm
      cases hm
    | some cd => exact ⟨cd, rfl⟩
  have hal : PySem.W.alongIn K "__init__" ((cd.mro.dropWhile (· != .ref D)).drop 1) = some (some (.ref f2)) := by
    unfold PySem.W.ks_superIn at hm
    rw [hcls] at hm
    exact hm
  obtain ⟨of, hof, hofc⟩ : ∃ of, h2.get? f2 = some of ∧ of.cls = .type "function" := by
    have ht' : (K.lookup f2).map (·.cls) = some (.type "function") := ht
    cases z : K.lookup f2 with
    | none =>
      rw [z] at ht'
      cases ht'
    | some of =>
      rw [z] at ht'
      exact ⟨of, X2 _ _ z, Option.some.inj ht'⟩
  have xC : x ≠ C := fun z => by
    have hC : ∃ oC, h2.get? C = some oC ∧ oC.data = .cls cd := by
      unfold PySem.W.clsIn at hcls
      split at hcls
      · rename_i c d cd' sl ho
        cases hcls
        exact ⟨_, X2 _ _ ho, rfl⟩
      · cases hcls
    obtain ⟨oC, h1, h2'⟩ := hC
    rw [z, h1] at hx2
    cases hx2
    cases h2'
  refine ks_wpAny_getMethod_super hso (PySem.W.looks_opaque X2 SF.opq) (l₀ := cd.mro) (fun A Q E s k q => wpAny_bind ((PySem.W.looks_clsIn X2 hcls) A _ E s k (wpAny_pure q))) rfl X2 hal hof hofc xC (by decide +kernel) ?_
  have qsz : (h2.push ({ cls := .type "method", data := .fields #[.ref f2, .ref x] } : Obj)).get? h2.objs.size = some (PySem.W.methodObj (.ref f2) (.ref x)) := Heap.get?_push_size _ rfl
  have I3 : Inv (ncx CX P w K mg base N F f A outer s H E) [(h2.objs.size, PySem.W.methodObj (.ref f2) (.ref x))] (startF N vs [some (.ref D)]) H ⟨h2.push { cls := .type "method", data := .fields #[.ref f2, .ref x] }, s.gens, s.drawn, s.toks + (ps.zip us).length + 1, s.os⟩ := by
    have J : Inv (ncx CX P w K mg base N F f A outer s H E) [] (startF N vs [some (.ref D)]) H ⟨h2.push { cls := .type "method", data := .fields #[.ref f2, .ref x] }, s.gens, s.drawn, s.toks + (ps.zip us).length + 1, s.os⟩ :=
      I2.kept (t' := s.toks + (ps.zip us).length + 1) fun b o e => Heap.get?_push_of_some _ e
    refine J.pins_of fun p hp => ?_
    have e : p = (h2.objs.size, PySem.W.methodObj (.ref f2) (.ref x)) := by simpa using hp
    subst e
    have lL := I2.lt
    refine ⟨qsz, I2.hok.fresh (Nat.le_refl _), Nat.ne_of_gt lL, I2.nofs (Nat.le_refl _), fun v z => by cases z⟩
  refine PySem.W.callWith_M (h₀ := h2) (L := s.heap.objs.size) (news := [(h2.objs.size, PySem.W.methodObj (.ref f2) (.ref x))]) X2 ?_ List.mem_cons_self hfi ?_ (he _) (hpl _)
  · intro p hp
    have e : p = (h2.objs.size, PySem.W.methodObj (.ref f2) (.ref x)) := by simpa using hp
    subst e
    exact ⟨qsz, Nat.ne_of_gt I2.lt, Heap.get?_none_of_le (Nat.le_refl _)⟩
  refine wpAny_mono (hta.run p3 _ _ _ H _ I3 hq) (fun ys s4 hy => ?_) fun e s' hs => hs
  obtain ⟨zs, H4, I4, r4, q4⟩ := hy
  have pin := (I4.pin (h2.objs.size, PySem.W.methodObj (.ref f2) (.ref x)) (List.mem_append_right _ List.mem_cons_self)).1
  refine ⟨⟨pin, I4.kIn⟩, wpAny_call (PySem.W.method_call pin ?_)⟩
  refine codeAny_mono (run_fnR (us := Value.ref x :: ys) (vs := V.ref x :: zs) F2 hr2 (hx A outer s H E) I4 (.cons rfl r4) q4) fun rr s5 h5 => ?_
  cases rr with
  | error er => exact h5
  | ok fl =>
    cases fl with
    | ret u =>
      obtain ⟨v, H5, I5, rv, q5⟩ := h5
      refine wpAt_of_wpAny (wpAny_mono (ht2.run _ s5 _ H5 _ I5 q5) (fun fl s' hs => ?_) fun e s' hs => hs)
      have fin : ∀ {σ' : L2.St} {H' : Hp} {v : V} {u : Value} {pn : List (Addr × Obj)}, Inv (ncx CX P w K mg base N F f A outer s H E) pn σ' H' s' → RelV v u → Q v H' → CE outer P w H s Q u s' :=
        fun {σ' H' v u pn} J rv q => ⟨v, H', J.os, J.bare, J.base, J.hok, rv, q⟩
      cases fl with
      | ret u =>
        obtain ⟨v, σ', H', J, rv, q⟩ := hs
        exact fin J rv q
      | next =>
        obtain ⟨σ', H', J, q⟩ := hs
        exact fin (v := V.non) (u := Value.none) J rfl q
      | brk =>
        obtain ⟨_, _, _, q⟩ := hs
        exact False.elim q
      | cont =>
        obtain ⟨_, _, _, q⟩ := hs
        exact False.elim q
    | next => exact False.elim h5
    | brk => exact False.elim h5
    | cont => exact False.elim h5
end
end K6
end
section -- KSupE
set_option maxHeartbeats 4000000
/-! An exception's __init__ that begins with super().__init__(..), the base being ValueError. -/
namespace K6
open PySem PySem.Spec PyProof.Rows L2 LamX NdefX
section
variable {prog : Program} {w : World} {A : Around} {E : Value → Shared → Prop} {h : Heap} {g : Array GenState} {d : Drawn} {t : Nat} {os : OsState}
variable {nm q : Str} {C N : Addr} {bs bm : List Value} {hdct : Bool} {sn : List Str} {sub : List Value} {ab : Bool} {col : Option Bool} {dd : Option Addr} {k0 k1 k2 k3 k5 : Option Value}
theorem call_mwVE {u e t0 : Addr} {rest : List Value} {Q : Value → Shared → Prop} (hC : h.get? C = some (excClassObj nm q C N bs bm hdct sn sub ab col dd k0 k1 k2 k3 k5 "ValueError.__new__"))
    (he : h.get? e = some (HandSPX.excO C t0)) (hu : h.get? u = some (PySem.W.kxs_mw "ValueError.__init__" e)) (hrest : rest.length ≤ sizeLine)
    (hq : ∀ h' t1, (∀ b o, b ≠ e → h.get? b = some o → h'.get? b = some o) → h'.get? e = some (HandSPX.excO C t1) → Q .none ⟨h', g, d, t, os⟩) :
    wpAny (model prog w) A (call (.ref u) rest) Q E ⟨h, g, d, t, os⟩ := by
  refine wpAny_call (codeAny_of_tree ?_)
  show wpAny _ A.in1 (callAny (.ref u) ⟨rest, []⟩) _ _ _
  simp only [callAny]
  refine wpAny_bind (wpAny_load hu ?_)
  simp only [PySem.W.kxs_mw, show (Value.type "method-wrapper" == Value.type "method" || Value.type "method-wrapper" == Value.type "builtin_function_or_method" || Value.type "method-wrapper" == Value.type "method-wrapper") = true by decide, if_true]
  refine PySem.W.KFB.if_so (by decide) ?_
  refine wpAny_bind (PySem.W.check_bound_init F.excBase_ValueError.toExcCallFacts hC he rfl ?_)
  refine wpAny_bind (wpAny_pure (wpAny_pure ?_))
  refine ⟨Code.quiet_builtin _ (by decide +kernel), codeAny_builtin F.excBase_ValueError.initEntry ?_⟩
  rw [Around.under_plainId F.excBase_ValueError.init.plain _]
  wp_walk
  refine hq _ h.objs.size (fun b o hb ho => ?_) ?_
  · rw [Heap.get?_update_other _ _ (Ne.symm hb)]
    exact Heap.get?_push_of_some _ ho
  · rw [Heap.get?_update_self _ (Heap.get?_push_of_some _ he) rfl]
    rfl
end
section
variable {CX : CXT} {P : Program} {w : World} {K : PySem.W.Frag} {mg : Str → Option Value} {base : Heap} {N ps : List Str} {F : NF} {f : Addr} {k : Nat} {sp : Sp} {D cc C : Addr} {oc dV kV doc pm ct : Value} {od an : Option Addr} {osl : Array (Option Value)} {ar : Arg} {e : Expr} {es : List Expr} {rest : List Stmt}
  {p0 p1 p2 p3 p4 : Pos}
/-- the reading: the new exception, the arguments (nothing of the call is told), the rest -/
def SupRE (K : PySem.W.Frag) (C : Addr) (ta : TA) (t : TS) (σ : L2.St) (vs : List V) (H : Hp) (Q : VK) : Prop :=
  ∃ x : Addr, vs[0]? = some (.ref x) ∧ H x = some (exo x C none) ∧ ta σ H fun ys H1 => ys.length ≤ 1000 ∧ H1 x = some (exo x C none) ∧ t { nx := fun _ H' => Q .non H', rt := Q } σ H1
theorem fn_supE (lk : K.lookup f = some ⟨oc, od, .func (PySem.W.fnX F.name F.qual F.params F.body F.scope F.cl dV kV doc pm an (.ref F.c) ct), osl⟩) (hcd : PySem.W.codeIn K (.ref F.c) F.qual = true) (hF : F.cl = ([(("__class__" : Str), cc)] : List (Str × Addr)))
    (SF : SupF K P D cc F.c) (S : NScope N ps ["__class__"] F.scope) (hB : F.body = .Expr (.Call (.Attribute (.Call (.Name "super" p0) [] [] p1) "__init__" p2) (e :: es) [] p3) p4 :: rest)
    (len : ∀ vs H Q E, sp vs H Q E → vs.length = ps.length) (hp : (F.params.posonlyargs ++ F.params.args).head? = some ar) (h0 : N[0]? = some ar.arg) (hps : 0 < ps.length)
    (hks : F.scope.names.lookup ("super" : Str) = some .globalImplicit) (hkc : F.scope.names.lookup ("__class__" : Str) = some .free) (hka : F.scope.names.lookup ar.arg = some .local)
    (T : OexC K C) (hsub : PySem.W.mroIn K C (.ref D) = some true) (hve : PySem.W.subIn K (.ref C) (.type "ValueError") = some true) (hm : PySem.W.ks_superIn K C D "__init__" = some (some (.builtin "ValueError.__init__")))
    {pl : Addr → Sem Bool}
    (hbody : ∀ (A : Around) (outer : List Env) (s : Shared) (H : Hp) (vs : List V) (Q : VK) (E : XK), Room k (A.deeper (envF F f s.heap.objs.size)) → sp vs H Q E →
      ∃ ta t, PA (ncx CX P w K mg base N F f A outer s H E) (e :: es) ta ∧ PSs (ncx CX P w K mg base N F f A outer s H E) rest t ∧ SupRE K C ta t (startF N vs [some (.ref D)]) vs H Q)
    (hex : ∀ L, eval (.Call (.Attribute (.Call (.Name "super" p0) [] [] p1) "__init__" p2) (e :: es) [] p3) (envF F f L) = (do
      let ov ← attributeBase (.Call (.Name "super" p0) [] [] p1) "__init__" (envF F f L) (eval (.Call (.Name "super" p0) [] [] p1) (envF F f L))
      standAt p2.atName
      let (g, first) ← holding [ov] (getMethod ov "__init__" (pl L))
      callWith p3 g first (backTo p3 (starEach (e :: es) (envF F f L))) []) := by intro L; rfl)
    (he : ∀ L, starEach (e :: es) (envF F f L) = (false, eval e (envF F f L)) :: starEach es (envF F f L) := by intro L; rfl) (hpl : ∀ L, (backTo p3 (starEach es (envF F f L))).any (·.1) = false := by intro L; rfl) :
    FnOk P w K mg base CX (k + 1) f (PySem.W.fnX F.name F.qual F.params F.body F.scope F.cl dV kV doc pm an (.ref F.c) ct) ps sp := by
  refine ⟨len, fun A outer s H args us vs Q E hr e0 hb r hsp => ?_⟩
  have hl := len _ _ _ _ hsp
  have KX : K.In s.heap := e0.mod.kin.keeps fun b o e => (e0.bs b o e).1
  have lim : s.heap.NoLimit := e0.mod.nolimit.keeps fun b o e => (e0.bs b o e).1
  refine codeAny_call_function hr.depth (KX _ _ lk) rfl S.co S.gen rfl (PySem.W.codeRec_of KX hcd) (hb _ _ _ _ ?_)
  refine wpAny_newFunctionEnv S.nocell (fun ⟨n, _⟩ hy => S.par n (List.of_mem_zip hy).1) (fun h₁ hns hsb => ⟨lim.fresh _ hsb, ?_⟩) S.kind
  show codeAny _ _ (.func F.body (envF F f s.heap.objs.size)) _ _
  have kp : ∀ b o, s.heap.get? b = some o → h₁.get? b = some o := fun b o e => hsb.extBut b o (Nat.ne_of_lt (Heap.lt_size e)) (Heap.get?_push_of_some _ e)
  have C0 : CellsAt F.cl ["__class__"] [some (.ref D)] s.heap H := by
    rw [hF]
    exact cells_sup e0 SF
  have I : Inv (ncx CX P w K mg base N F f A outer s H E) [] (startF N vs [some (.ref D)]) H { s with heap := h₁, toks := s.toks + (ps.zip us).length } := inv_startN S hr.hd e0 hl r C0 hns kp
  obtain ⟨ta, t, hta, ht2, x, hvx, hxi, hq⟩ := hbody A outer s H vs Q E (hr.deeper _) hsp
  have hσ : (startF N vs [some (.ref D)])[0]? = some (some (.ref x)) := by
    unfold startF
    have lv : 0 < vs.length := by omega
    rw [List.getElem?_append_left (by rw [List.length_map]; exact lv), List.getElem?_map, hvx] <;> rfl
  refine ks_codeAny_funcAt ?_
  rw [hB]
  obtain ⟨t1, hob⟩ := exo_at I.hok hxi
  refine ks_wpAt_execs_cons (ks_wpAt_Expr_any (ks_wpAt_MethodCall (pl := pl s.heap.objs.size) (sup_node (i := 0) SF hF I lk hp h0 hσ hob rfl (fun c z => by cases z) hsub hks hkc hka fun so h2 hso hsz k2' => ?_) (hex _)) (not_inter S.kind))
  have I2 : Inv (ncx CX P w K mg base N F f A outer s H E) [] (startF N vs [some (.ref D)]) H ⟨h2, s.gens, s.drawn, s.toks + (ps.zip us).length, s.os⟩ := I.kept k2'
  have X2 : K.In h2 := I2.kIn
  have hx2 := k2' _ _ hob
  obtain ⟨cd, hcls⟩ : ∃ cd, PySem.W.clsIn K C = some cd := by
    cases z : PySem.W.clsIn K C with
    | none =>
      unfold PySem.W.ks_superIn at hm
      rw [z] at hm
      cases hm
    | some cd => exact ⟨cd, rfl⟩
  have hal : PySem.W.alongIn K "__init__" ((cd.mro.dropWhile (· != .ref D)).drop 1) = some (some (.builtin "ValueError.__init__")) := by
    unfold PySem.W.ks_superIn at hm
    rw [hcls] at hm
    exact hm
  have xC : x ≠ C := fun z => by
    have hC : ∃ oC, h2.get? C = some oC ∧ oC.data = .cls cd := by
      unfold PySem.W.clsIn at hcls
      split at hcls
      · rename_i c d cd' sl ho
        cases hcls
        exact ⟨_, X2 _ _ ho, rfl⟩
      · cases hcls
    obtain ⟨oC, h1, h2'⟩ := hC
    rw [z, h1] at hx2
    cases hx2
    cases h2'
  have IA : PySem.W.InstAt h2 x ({ cls := .ref C, dict := none, data := .fields #[.ref t1, .none, .none, .none, .bool false, .none] } : Obj) C none := ⟨hx2, rfl, rfl, trivial⟩
  refine PySem.W.kxs_getMethod PySem.W.kxs_ValueError hso (PySem.W.looks_opaque X2 SF.opq) (l₀ := cd.mro) (fun A Q E s k q => wpAny_bind ((PySem.W.looks_clsIn X2 hcls) A _ E s k (wpAny_pure q))) rfl X2 hal (IA.type.andThen (PySem.W.looks_subIn X2 hve)) xC (by decide +kernel) ?_
  have qsz : (h2.push (PySem.W.kxs_mw "ValueError.__init__" x)).get? h2.objs.size = some (PySem.W.kxs_mw "ValueError.__init__" x) := Heap.get?_push_size _ rfl
  have I3 : Inv (ncx CX P w K mg base N F f A outer s H E) [(h2.objs.size, PySem.W.kxs_mw "ValueError.__init__" x)] (startF N vs [some (.ref D)]) H ⟨h2.push (PySem.W.kxs_mw "ValueError.__init__" x), s.gens, s.drawn, s.toks + (ps.zip us).length + 1, s.os⟩ := by
    have J : Inv (ncx CX P w K mg base N F f A outer s H E) [] (startF N vs [some (.ref D)]) H ⟨h2.push (PySem.W.kxs_mw "ValueError.__init__" x), s.gens, s.drawn, s.toks + (ps.zip us).length + 1, s.os⟩ :=
      I2.kept (t' := s.toks + (ps.zip us).length + 1) fun b o e => Heap.get?_push_of_some _ e
    refine J.pins_of fun p hp => ?_
    have e : p = (h2.objs.size, PySem.W.kxs_mw "ValueError.__init__" x) := by simpa using hp
    subst e
    have lL := I2.lt
    refine ⟨qsz, I2.hok.fresh (Nat.le_refl _), Nat.ne_of_gt lL, I2.nofs (Nat.le_refl _), fun v z => by cases z⟩
  refine PySem.W.kxs_callWith1 (i := "ValueError.__init__") (x := x) (h₀ := h2) (L := s.heap.objs.size) (news := [(h2.objs.size, PySem.W.kxs_mw "ValueError.__init__" x)]) ?_ List.mem_cons_self ?_ (he _) (hpl _)
  · intro p hp
    have e : p = (h2.objs.size, PySem.W.kxs_mw "ValueError.__init__" x) := by simpa using hp
    subst e
    exact ⟨qsz, Nat.ne_of_gt I2.lt, Heap.get?_none_of_le (Nat.le_refl _)⟩
  refine wpAny_mono (hta.run p3 _ _ _ H _ I3 hq) (fun ys s4 hy => ?_) fun e s' hs => hs
  obtain ⟨zs, H4, I4, r4, hz, hx4, q4⟩ := hy
  have pin := (I4.pin (h2.objs.size, PySem.W.kxs_mw "ValueError.__init__" x) (List.mem_append_right _ List.mem_cons_self)).1
  refine ⟨pin, ?_⟩
  obtain ⟨nm, q, Nn, bs, bm, sn, sub, ab, col, dd, k0, k1, k2, k3, k5, hC, hbm⟩ := T.cls
  obtain ⟨t4, ho4⟩ := exo_at I4.hok hx4
  have hys : ys.length ≤ sizeLine := by
    rw [← Paired.length r4, sizeLine_eq]
    omega
  obtain ⟨hp4, g4, d4, tk4, os4⟩ := s4
  refine call_mwVE (I4.kIn _ _ hC) ho4 pin hys fun h' t5 kk hx5 => ?_
  have I5 := I4.write (t' := tk4) (x := x) (e := x) (o := exo x C none) (by rw [hx4]; exact True.intro) (.inl rfl) kk ⟨_, hx5⟩ (exo_ok hx5)
  have eu : upd H4 x (exo x C none) = H4 := by
    funext b
    by_cases hb : b = x
    · rw [hb, upd_same, hx4]
    · rw [upd_ne hb]
  rw [eu] at I5
  refine wpAt_of_wpAny (wpAny_mono (ht2.run _ _ _ H4 _ I5 q4) (fun fl s' hs => ?_) fun e s' hs => hs)
  have fin : ∀ {σ' : L2.St} {H' : Hp} {v : V} {u : Value} {pn : List (Addr × Obj)}, Inv (ncx CX P w K mg base N F f A outer s H E) pn σ' H' s' → RelV v u → Q v H' → CE outer P w H s Q u s' :=
    fun {σ' H' v u pn} J rv q => ⟨v, H', J.os, J.bare, J.base, J.hok, rv, q⟩
  cases fl with
  | ret u =>
    obtain ⟨v, σ', H', J, rv, q⟩ := hs
    exact fin J rv q
  | next =>
    obtain ⟨σ', H', J, q⟩ := hs
    exact fin (v := V.non) (u := Value.none) J rfl q
  | brk =>
    obtain ⟨_, _, _, q⟩ := hs
    exact False.elim q
  | cont =>
    obtain ⟨_, _, _, q⟩ := hs
    exact False.elim q
end
end K6
end
section -- KLc
set_option maxHeartbeats 4000000
/-! Comprehensions without a test that only make objects; defs by name. -/
namespace K6
open PySem PySem.Spec PyProof.Rows L2
section
variable {J : It} {n : Nat} {G : Hp → Prop} {Y : Nat → Hp → V → Hp → Prop}
theorem lc_all (w : Walk J n G Y) {g : TG} {te : TE} {vs : List Nat} {σ : L2.St} {H1 : Hp} {D : Addr} {Qd : Hp → Prop} (nD : H1 D = none) (R : Nat → V → Hp → Prop) (hR : ∀ i v H H', Same H H' → R i v H → R i v H')
    (hB : ∀ i v H acc acc', R i v H → H D = some (.lst acc) → R i v (upd H D (.lst acc'))) (hG : ∀ H, Same H1 H → G H) (hn : n ≤ sizeLine)
    (hs : ∀ i x H H', i < n → Same H1 H → Y i H x H' → ∀ Q : VK, (∀ y H4, Same H H4 → R i y H4 → Q y H4) → g x (wipe σ vs) H' fun σ2 H2 => wipe σ2 vs = wipe σ vs ∧ te σ2 H2 Q)
    (hd : ∀ H acc, acc.length = n → (∀ i v, acc[i]? = some v → R i v H) → H D = some (.lst acc) → Same H1 H → Qd H) :
    ∃ W : Nat → Nat → Hp → Prop, (∃ m, W 0 m (upd H1 D (.lst []))) ∧ ∀ i m H, W i m H →
      (J.stop i H ∧ Qd H) ∨ (J.go i H ∧ ∃ Nx : Hp → Prop, (∀ H', Nx H' → ∃ m', m' < m ∧ W (i + 1) m' H') ∧ ∀ x H', J.yld i H x H' → g x (wipe σ vs) H' fun σ2 H2 => wipe σ2 vs = wipe σ vs ∧ tYes σ2 H2 fun b H3 =>
        if b = true then te σ2 H3 fun y H4 => ∃ acc, H4 D = some (.lst acc) ∧ acc.length < sizeLine ∧ Nx (upd H4 D (.lst (acc ++ [y]))) else Nx H3) := by
  refine lc_it w (fun i H => ∃ acc, H D = some (.lst acc) ∧ acc.length = i ∧ (∀ j v, acc[j]? = some v → R j v H) ∧ Same H1 H) ⟨[], upd_same, rfl, fun j v h => by simp at h, Same.new nD⟩ (fun i H _ ⟨_, _, _, _, s⟩ => hG H s) (fun i x H H' hi ⟨acc, hD, hl, hr, s⟩ y => ?_) fun H ⟨acc, hD, hl, hr, s⟩ => hd H acc hl hr hD s
  refine (?_ : g x (wipe σ vs) H' fun σ2 H2 => wipe σ2 vs = wipe σ vs ∧ te σ2 H2 _)
  refine hs i x H H' hi s y _ fun v H4 s4 r4 => ?_
  refine ⟨acc, s4 _ _ hD, by omega, acc ++ [v], upd_same, by simp [hl], fun j u hj => ?_, fun b o e => ?_⟩
  · have a4 := s4 _ _ hD
    by_cases hj2 : j < acc.length
    · rw [List.getElem?_append_left hj2] at hj
      exact hB _ _ _ _ _ (hR _ _ _ _ s4 (hr j u hj)) a4
    · have hl2 : j < (acc ++ [v]).length := (List.getElem?_eq_some_iff.mp hj).1
      rw [List.length_append, List.length_singleton] at hl2
      have e : j = acc.length := by omega
      subst e
      rw [List.getElem?_append_right (Nat.le_refl _), Nat.sub_self] at hj
      have e2 : v = u := Option.some.inj hj
      rw [← e2, hl]
      exact hB _ _ _ _ _ r4 a4
  · rw [upd_ne (ne_of_none e nD)]
    exact s4 _ _ (s _ _ e)
end
/-- one of two walks -/
theorem pi_or {X : Cx} {tg iter : Expr} {w1 w2 : TI} (h1 : PI X tg iter w1) (h2 : PI X tg iter w2) : PI X tg iter (fun σ H R => w1 σ H R ∨ w2 σ H R) :=
  ⟨fun pins s σ H R I h => h.elim (h1.run pins s σ H R I) (h2.run pins s σ H R I)⟩
/-- one of two rules for an operator -/
theorem op_or {X : Cx} {f : Value → Value → Sem Value} {r1 r2 : R2} (h1 : OpR X f r1) (h2 : OpR X f r2) : OpR X f (fun x y H Q => r1 x y H Q ∨ r2 x y H Q) :=
  fun pins s σ H x y v u Q I rx ry h => h.elim (h1 pins s σ H x y v u Q I rx ry) (h2 pins s σ H x y v u Q I rx ry)
/-! ### a def by its name -/
def Dfn (P : Program) (w : World) (K : PySem.W.Frag) (mg : Str → Option Value) (base : Heap) (CX : CXT) (k : Nat) (x : Str) (ps : List Str) (sp : Sp) : Prop :=
  ∃ fd, FnOk P w K mg base CX k (He.ga K x) fd ps sp ∧ Binds K fd ps [] ∧ PySem.W.keepIn K (.ref (He.ga K x)) = true ∧ mg x = some (.ref (He.ga K x))
section
variable {X : Cx} {CX : CXT} {k : Nat} {ps : List Str} {sp : Sp} {E : XK} {x : Str} {p pos : Pos} {e : Expr} {es : List Expr} {t : TA}
theorem pe_d (D : Dfn X.prog X.w X.K X.mg X.base CX k x ps sp) (hr : Room k X.A) (hx : Passes CX X E) (ha : PA X (e :: es) t) (hg : Gl X x := by rfl) (hdb : (x == ("__debug__" : Str)) = false := by decide)
    (he : starEach (e :: es) X.env = (false, eval e X.env) :: starEach es X.env := by rfl) (hpl : (backTo pos (starEach es X.env)).any (·.1) = false := by rfl) : PE X (.Call (.Name x p) (e :: es) [] pos) (tCall sp [] E t) := by
  obtain ⟨fd, F, b, kp, m⟩ := D
  exact pe_call F hr hg m kp b .nil hx ha hdb he hpl
theorem pe_d0 (D : Dfn X.prog X.w X.K X.mg X.base CX k x ps sp) (hr : Room k X.A) (hx : Passes CX X E) (hg : Gl X x := by rfl) (hdb : (x == ("__debug__" : Str)) = false := by decide) : PE X (.Call (.Name x p) [] [] pos) (tCall sp [] E tNil) := by
  obtain ⟨fd, F, b, kp, m⟩ := D
  exact pe_call0 F hr hg m kp b .nil hx hdb
end
section
variable {X : Cx} {x : Str} {pos : Pos}
/-- a number, a text of the module -/
theorem pe_gi {i : Int} {t : Tok} (g : X.mg x = some (.int i t)) (hg : Gl X x := by rfl) (hd : (x == ("__debug__" : Str)) = false := by decide) : PE X (.Name x pos) (tC (.int i)) := pe_glob hg g ⟨_, rfl⟩ hd
theorem pe_gs {y : Str} {t : Tok} (g : X.mg x = some (.str y t)) (hg : Gl X x := by rfl) (hd : (x == ("__debug__" : Str)) = false := by decide) : PE X (.Name x pos) (tC (.str y)) := pe_glob hg g ⟨_, rfl⟩ hd
/-- an object of the module -/
theorem pe_go {a : Addr} (g : X.mg x = some (.ref a)) (hg : Gl X x := by rfl) (hd : (x == ("__debug__" : Str)) = false := by decide) : PE X (.Name x pos) (tC (.ref a)) := pe_glob hg g rfl hd
/-- a built-in class as a value -/
theorem pe_ty (n : String) (g : X.mg x = none) (hb : bootBuiltins x = some (.type n) := by decide +kernel) (hg : Gl X x := by rfl) (hn : x ≠ "__name__" := by decide) (hd : (x == ("__debug__" : Str)) = false := by decide) : PE X (.Name x pos) (tC (.ty n)) := pe_bltn hg g hb (v := .ty n) rfl hn hd
end
/-- a def of the text as it stands behind the top -/
abbrev FnT (K : PySem.W.Frag) (x : Str) (i : Nat) (fd : FuncData) : Prop := FunD K x x (defArgs (top i)) (defBody (top i)) (defScope (top i)) [] [] (He.ga K x) fd
theorem dfn_mk {P : Program} {w : World} {K : PySem.W.Frag} {mg : Str → Option Value} {base : Heap} {CX : CXT} {k : Nat} {x : Str} {i : Nat} {fd : FuncData} {ps : List Str} {sp : Sp} (F : FnT K x i fd) (m : mg x = some (.ref (He.ga K x)))
    (hb : ∀ (kV doc pm : Value) (an : Option Addr) (cdv ct : Value) (us : List Value), us.length = ps.length → bindArgs (PySem.W.fnOf x x (defArgs (top i)) (defBody (top i)) (defScope (top i)) .none kV doc pm an cdv ct) ⟨us, []⟩ = pure (ps.zip us)) (O : FnOk P w K mg base CX k (He.ga K x) fd ps sp) : Dfn P w K mg base CX k x ps sp :=
  ⟨fd, O, F.bindsN hb, F.kp, m⟩
/-- what is never called keeps any promise -/
theorem dfn_no {P : Program} {w : World} {K : PySem.W.Frag} {mg : Str → Option Value} {base : Heap} {CX : CXT} {k : Nat} {x : Str} {i : Nat} {fd : FuncData} {ps : List Str} (F : FnT K x i fd) (m : mg x = some (.ref (He.ga K x)))
    (hb : ∀ (kV doc pm : Value) (an : Option Addr) (cdv ct : Value) (us : List Value), us.length = ps.length → bindArgs (PySem.W.fnOf x x (defArgs (top i)) (defBody (top i)) (defScope (top i)) .none kV doc pm an cdv ct) ⟨us, []⟩ = pure (ps.zip us)) : Dfn P w K mg base CX k x ps (fun _ _ _ _ => False) :=
  dfn_mk F m hb ⟨fun _ _ _ _ h => h.elim, fun _ _ _ _ _ _ _ _ _ _ _ _ _ h => h.elim⟩
theorem Dfn.mono {P : Program} {w : World} {K : PySem.W.Frag} {mg : Str → Option Value} {base : Heap} {CX : CXT} {k k' : Nat} {x : Str} {ps : List Str} {sp : Sp} (D : Dfn P w K mg base CX k x ps sp) (h : k ≤ k') : Dfn P w K mg base CX k' x ps sp := by
  obtain ⟨fd, F, b, kp, m⟩ := D
  exact ⟨fd, ⟨F.len, fun A outer s H args us vs Q E hr => F.run A outer s H args us vs Q E (hr.mono h)⟩, b, kp, m⟩
end K6
end
section -- KF1
set_option maxHeartbeats 4000000
/-! is_integer, is_name, fixed. -/
namespace K6
open PySem PySem.Spec PyProof.Rows L2
section
variable {P : Program} {w : World} {K : PySem.W.Frag} {mg : Str → Option Value} {base : Heap}
/-! ### is_integer -/
def isInt : Dat → Bool
  | .int _ => true
  | _ => false
def spIsInt (K : PySem.W.Frag) : Sp := fun vs H Q _ => ∃ v d, vs = [v] ∧ RpK K H v d ∧ d.okc = true ∧ Q (.bl (isInt d)) H
theorem scIsInt : FnScope ["value"] ["value"] (defScope (top 4)) := ⟨rfl, rfl, rfl, by decide +kernel, rfl, by decide +kernel, by decide +kernel⟩
theorem isInt_eq (d : Dat) : (if isB "int" d = true then !isB "bool" d else false) = isInt d := by
  show (if isN (tyN d) "int" = true then !isN (tyN d) "bool" else false) = isInt d
  cases d with
  | int i => exact (by decide +kernel : (if isN "int" "int" = true then !isN "int" "bool" else false) = true)
  | bl b => exact (by decide +kernel : (if isN "bool" "int" = true then !isN "bool" "bool" else false) = false)
  | non => decide +kernel
  | str z => exact (by decide +kernel : (if isN "str" "int" = true then !isN "str" "bool" else false) = false)
  | emp => decide +kernel
  | tup _ => exact (by decide +kernel : (if isN "tuple" "int" = true then !isN "tuple" "bool" else false) = false)
  | lst _ => exact (by decide +kernel : (if isN "list" "int" = true then !isN "list" "bool" else false) = false)
  | pap _ _ _ => exact (by decide +kernel : (if isN "Paper" "int" = true then !isN "Paper" "bool" else false) = false)
theorem d_isInt (T : Txt w K mg) {fd : FuncData} (F : FnT K "is_integer" 4 fd) : Dfn P w K mg base CX0 1 "is_integer" ["value"] (spIsInt K) := by
  refine dfn_mk F (T.g _ (by decide +kernel)) (fun _ _ _ _ _ _ us hl => match us, hl with | [_], _ => rfl) (F.ok scIsInt (fun vs H Q E h => by obtain ⟨v, d, rfl, _⟩ := h; rfl) fun cdv A outer s H vs Q E hr h => ?_)
  have mI := T.z "isinstance" (by decide +kernel)
  have m1 := T.z "int" (by decide +kernel)
  have m2 := T.z "bool" (by decide +kernel)
  refine ⟨_, PSs.nox (pss_one (ps_ret (pe_and (pe_callB call_isi rfl mI (by decide +kernel) (pa_cons (pv 0) (pa_cons (pe_ty "int" m1) pa_nil)))
    (pe_one (pe_not (pe_callB call_isi rfl mI (by decide +kernel) (pa_cons (pv 0) (pa_cons (pe_ty "bool" m2) pa_nil)))))))), ?_⟩
  obtain ⟨v, d, rfl, r, hc, q⟩ := h
  rw [← isInt_eq d] at q
  refine ⟨_, rfl, _, _, _, _, _, rfl, .ty _, ty_of T r hc, kit_B T hc (by simp), _, rfl, ?_⟩
  cases e : isB "int" d with
  | true =>
    rw [e, if_pos rfl] at q
    exact iteT ⟨_, rfl, _, _, _, _, _, rfl, .ty _, ty_of T r hc, kit_B T hc (by simp), _, rfl, q⟩
  | false =>
    rw [e, if_neg Bool.false_ne_true] at q
    exact iteF q
/-! ### is_name -/
def letters : List Nat := ("abcdefghijklmnopqrstuvwxyz" : Str).cps.toList
def signs : List Nat := ("abcdefghijklmnopqrstuvwxyz0123456789" : Str).cps.toList
def isNm (z : Str) : Bool := match z.cps.toList with
  | [] => false
  | c :: r => decide (r.length < 8) && decide (c ∈ letters) && (c :: r).all fun x => decide (x ∈ signs)
def isName : Dat → Bool
  | .str z => isNm z
  | _ => false
/-- a list made item by item -/
theorem acc_map {α : Type} {f : α → V} {xs : List α} {acc : List V} (hl : acc.length = xs.length) (h : ∀ (i : Nat) (v : V), acc[i]? = some v → ∃ x : α, xs[i]? = some x ∧ v = f x) : acc = xs.map f := by
  refine List.ext_getElem? fun i => ?_
  rw [List.getElem?_map]
  cases e : acc[i]? with
  | none =>
    have z : xs.length ≤ i := by
      rw [← hl]
      exact List.getElem?_eq_none_iff.mp e
    rw [List.getElem?_eq_none_iff.mpr z]
    rfl
  | some v =>
    obtain ⟨x, hx, hv⟩ := h i v e
    rw [hx, hv]
    rfl
def spIsName (K : PySem.W.Frag) : Sp := fun vs H Q _ => ∃ v d, vs = [v] ∧ RpK K H v d ∧ d.okc = true ∧ (∀ z, d = .str z → z.length ≤ sizeLine) ∧ ∀ H', Same H H' → Q (.bl (isName d)) H'
theorem str_cases (d : Dat) : (∃ z, d = .str z) ∨ isB "str" d = false := by
  cases d with
  | str z => exact .inl ⟨z, rfl⟩
  | _ => exact .inr rfl
theorem scIsName : FnScope ["value", "sign"] ["value"] (defScope (top 5)) := ⟨rfl, rfl, rfl, by decide +kernel, rfl, by decide +kernel, by decide +kernel⟩
theorem d_isName (T : Txt w K mg) {fd : FuncData} (F : FnT K "is_name" 5 fd) : Dfn P w K mg base CX0 1 "is_name" ["value"] (spIsName K) := by
  refine dfn_mk F (T.g _ (by decide +kernel)) (fun _ _ _ _ _ _ us hl => match us, hl with | [_], _ => rfl) (F.ok scIsName (fun vs H Q E h => by obtain ⟨v, d, rfl, _⟩ := h; rfl) fun cdv A outer s H vs Q E hr h => ?_)
  have mI := T.z "isinstance" (by decide +kernel)
  have m1 := T.z "str" (by decide +kernel)
  have m2 := T.z "len" (by decide +kernel)
  have m3 := T.z "all" (by decide +kernel)
  obtain ⟨t1, g1⟩ := T.i "MOST_SIGNS" 8 (by decide +kernel)
  obtain ⟨t2, g2⟩ := T.s "LETTERS" "abcdefghijklmnopqrstuvwxyz" (by decide +kernel)
  obtain ⟨t3, g3⟩ := T.s "SIGNS" "abcdefghijklmnopqrstuvwxyz0123456789" (by decide +kernel)
  refine ⟨_, PSs.nox (pss_cons (ps_if (PW.pt (pw_or (pt_not (pt_val (pe_callB call_isi rfl mI (by decide +kernel) (pa_cons (pv 0) (pa_cons (pe_ty "str" m1) pa_nil)))))
      (pw_or (pt_not (pt_chain op_le op_le pe_int (pe_callB call_len_str rfl m2 PySem.boot_len (pa_cons (pv 0) pa_nil)) (pe_gi g1)))
      (pw_or1 (pt_cmpR op_notIn_sign (pe_ix ix_str (pv 0) pe_int (fun _ _ => rfl)) (pe_gs g2) rfl)))))
      (pss_one (ps_ret pe_bl)) pss_nil)
    (pss_one (ps_ret (pe_callB (cr_all rfl) rfl m3 (by decide +kernel) (pa_cons (pe_lc (own := [("sign", 1)]) (g := gName 1) (tt := tYes) rfl scIsName.nd (pi_str (pv 0)) (blkOk_by (own := [("sign", 1)]) (N := ["value", "sign"]) (sc := defScope (top 5)) (by decide +kernel))
      (fun _ _ _ _ _ => pg_name (i := 1) scIsName.nd rfl (Or.inl rfl)) (fun _ _ _ _ _ => pts_nil) (fun _ _ _ _ _ => pe_cmpR op_in_sign (pv 1) (pe_gs g3) rfl)) pa_nil))))), ?_⟩
  obtain ⟨v, d, rfl, r, hc, hz, q⟩ := h
  refine ⟨_, rfl, _, _, _, _, _, rfl, .ty _, ty_of T r hc, kit_B T hc (by simp), _, rfl, ?_⟩
  rcases str_cases d with ⟨z, rfl⟩ | e
  · cases r
    refine iteF ?_
    have hz := hz z rfl
    refine ⟨_, rfl, _, rfl, hz, ?_⟩
    have hl : (z.length : Int) = (z.cps.toList.length : Int) := by simp [PySem.Str.length]
    refine ⟨_, _, rfl, rfl, _, rfl, ?_⟩
    have q := fun H' s => q H' s
    have e0 : isName (.str z) = isNm z := rfl
    rw [e0] at q
    unfold isNm at q
    cases el : z.cps.toList with
    | nil =>
      rw [el] at q hl
      rw [hl]
      refine iteF ⟨_, rfl, iteT (iteT (q H (Same.refl H)))⟩
    | cons c rr =>
      rw [el] at q hl
      have q : ∀ H', Same H H' → Q (.bl (decide (rr.length < 8) && decide (c ∈ letters) && (c :: rr).all fun x => decide (x ∈ signs))) H' := q
      rw [hl]
      rw [decide_eq_true (show (1 : Int) ≤ ((c :: rr).length : Int) by rw [List.length_cons]; omega)]
      refine iteT ⟨_, _, rfl, rfl, _, rfl, ?_⟩
      by_cases h8 : rr.length < 8
      · rw [decide_eq_true (show ((c :: rr).length : Int) ≤ 8 by rw [List.length_cons]; omega)]
        refine iteF ⟨_, rfl, _, _, c, rfl, rfl, hz, ?_, _, _, rfl, rfl, _, rfl, ?_⟩
        · rw [el]
          exact atI_nat rfl
        rw [decide_eq_true h8, Bool.true_and] at q
        by_cases hm : c ∈ letters
        · rw [decide_eq_true hm, Bool.true_and] at q
          rw [decide_eq_true (show c ∈ ("abcdefghijklmnopqrstuvwxyz" : Str).cps.toList from hm)]
          refine iteF ?_
          refine ⟨_, rfl, _, rfl, fun D hD => lc_all walk_str hD (fun i v _ => ∃ c, z.cps[i]? = some c ∧ v = .bl (decide (c ∈ signs))) (fun _ _ _ _ _ h => h) (fun _ _ _ _ _ h _ => h) (fun _ _ => trivial) ?_ (fun i x H1 H2 hi s1 y Q2 k => ?_) fun H2 acc ha hr2 hD2 s2 => ?_⟩
          · exact hz
          · obtain ⟨rfl, c2, hc2, rfl⟩ := y
            exact ⟨rfl, _, rfl, _, _, rfl, rfl, k _ _ (Same.refl _) ⟨c2, hc2, rfl⟩⟩
          · refine ⟨D, (c :: rr).map fun x => decide (x ∈ signs), rfl, .inl (.inl ?_), ?_⟩
            · rw [hD2]
              rw [List.map_map]; congr 2
              refine acc_map (xs := c :: rr) (f := fun x => V.bl (decide (x ∈ signs))) (by rw [ha, ← el]; simp) fun i v hv => ?_
              obtain ⟨c2, hc2, e2⟩ := hr2 i v hv
              exact ⟨c2, by rw [← el, Array.getElem?_toList]; exact hc2, e2⟩
            · have e : (List.map (fun x => decide (x ∈ signs)) (c :: rr)).all id = ((c :: rr).all fun x => decide (x ∈ signs)) := by
                rw [List.all_map]
                rfl
              rw [e]
              exact q H2 s2
        · rw [decide_eq_false hm, Bool.false_and] at q
          rw [decide_eq_false (show ¬ c ∈ ("abcdefghijklmnopqrstuvwxyz" : Str).cps.toList from hm)]
          exact iteT (q H (Same.refl H))
      · rw [decide_eq_false h8, Bool.false_and, Bool.false_and] at q
        rw [decide_eq_false (show ¬ ((c :: rr).length : Int) ≤ 8 by rw [List.length_cons]; omega)]
        exact iteT (iteT (q H (Same.refl H)))
  · have q2 : isName d = false := by cases d <;> first | rfl | cases e
    rw [q2] at q
    rw [e]
    exact iteT (iteT (q H (Same.refl H)))
end
end K6
end
section -- KF2
set_option maxHeartbeats 4000000
/-! fixed. -/
namespace K6
open PySem PySem.Spec PyProof.Rows L2
section
variable {P : Program} {w : World} {K : PySem.W.Frag} {mg : Str → Option Value} {base : Heap}
def spFixed (K : PySem.W.Frag) (n : Nat) : Sp := fun vs H Q _ => ∃ v d, vs = [v] ∧ RpK K H v d ∧ d.ok = true ∧ d.cn ≤ sizeLine ∧ d.dep ≤ n ∧ ∀ H' v', Same H H' → RpK K H' v' d.fix → Q v' H'
theorem scFixed : FnScope ["value", "one"] ["value"] (defScope (top 25)) := ⟨rfl, rfl, rfl, by decide +kernel, rfl, by decide +kernel, by decide +kernel⟩
/-- by levels: none is there at 0 -/
def spFixedN (K : PySem.W.Frag) : Nat → Sp
  | 0 => fun _ _ _ _ => False
  | n + 1 => spFixed K n
theorem kitLT {d : Dat} (T : Txt w K mg) (hc : d.okc = true) : PySem.W.kitAny K (tyD K d) [.type "list", .type "tuple"] = some (isB "list" d || isB "tuple" d) := by
  refine kitAny_cons (kit_B T hc (by simp)) (fun e => ?_) fun e => by rw [e, Bool.true_or]
  rw [e, Bool.false_or]
  exact kitAny_cons (kit_B T hc (by simp)) (fun e => by rw [e]; exact kitAny_nil) fun e => e
theorem lt_cases (d : Dat) : (∃ ds, d = .lst ds ∨ d = .tup ds) ∨ ((isB "list" d || isB "tuple" d) = false ∧ d.fix = d) := by
  cases d with
  | lst ds => exact .inl ⟨ds, .inl rfl⟩
  | tup ds => exact .inl ⟨ds, .inr rfl⟩
  | _ => exact .inr ⟨rfl, rfl⟩
theorem d_fixed (T : Txt w K mg) {fd : FuncData} (F : FnT K "fixed" 25 fd) : ∀ n, Dfn P w K mg base CX0 n "fixed" ["value"] (spFixedN K n) := by
  intro n
  induction n with
  | zero => exact dfn_no F (T.g _ (by decide +kernel)) (fun _ _ _ _ _ _ us hl => match us, hl with | [_], _ => rfl)
  | succ n D =>
    refine dfn_mk F (T.g _ (by decide +kernel)) (fun _ _ _ _ _ _ us hl => match us, hl with | [_], _ => rfl) (F.ok scFixed (fun vs H Q E h => by obtain ⟨v, d, rfl, _⟩ := h; rfl) fun cdv A outer s H vs Q E hr h => ?_)
    have mI := T.z "isinstance" (by decide +kernel)
    have m1 := T.z "list" (by decide +kernel)
    have m2 := T.z "tuple" (by decide +kernel)
    refine ⟨_, PSs.nox (pss_cons (ps_if (pt_val (pe_callB call_isiT rfl mI (by decide +kernel) (pa_cons (pv 0) (pa_cons (pe_tup (pa_cons (pe_ty "list" m1) (pa_cons (pe_ty "tuple" m2) pa_nil))) pa_nil))))
        (pss_one (ps_ret (pe_callTy call_tuple_of rfl m2 (by decide +kernel) (pa_cons (pe_lc (own := [("one", 1)]) (g := gName 1) (tt := tYes) rfl scFixed.nd (pi_or (pi_list (pv 0)) (pi_tup (pv 0))) (blkOk_by (own := [("one", 1)]) (N := ["value", "one"]) (sc := defScope (top 25)) (by decide +kernel))
          (fun _ _ _ _ _ => pg_name (i := 1) scFixed.nd rfl (Or.inl rfl)) (fun _ _ _ _ _ => pts_nil) (fun _ _ _ _ _ => pe_d D hr pass0 (pa_cons (pv 1) pa_nil))) pa_nil)))) pss_nil)
      (pss_one (ps_ret (pv 0)))), ?_⟩
    obtain ⟨v, d, rfl, r, ho, hz, hd, q⟩ := h
    have hc := okc_of ho
    refine ⟨_, rfl, (by show 2 ≤ sizeLine; decide), fun p np => ⟨_, p, _, _, _, _, rfl, upd_same, .cons (.ty _) (.cons (.ty _) .nil), ty_of T (r.mono (Same.new np)) hc, kitLT T hc, _, rfl, ?_⟩⟩
    rcases lt_cases d with ⟨ds, e⟩ | ⟨e, ef⟩
    · have hb : (isB "list" d || isB "tuple" d) = true := by
        rcases e with rfl | rfl
        · exact (by decide +kernel : (isN "list" "list" || isN "list" "tuple") = true)
        · exact (by decide +kernel : (isN "tuple" "list" || isN "tuple" "tuple") = true)
      rw [hb]
      refine iteT ?_
      obtain ⟨a, vs, rfl, rr, hs⟩ : ∃ a vs, v = .ref a ∧ RpsK K H vs ds ∧ (H a = some (.lst vs) ∨ H a = some (.tup vs)) := by
        rcases e with rfl | rfl
        · cases r with
          | lst h r => exact ⟨_, _, rfl, r, .inl h⟩
        · cases r with
          | tup h r => exact ⟨_, _, rfl, r, .inr h⟩
      have s1 : Same H (upd H p (.tup [.ty "list", .ty "tuple"])) := Same.new np
      obtain ⟨hos, hzs, hds, efx⟩ : okS ds = true ∧ cnS ds ≤ sizeLine ∧ depS ds + 1 ≤ n ∧ d.fix = .tup (fixS ds) := by
        rcases e with rfl | rfl
        · exact ⟨ho, by unfold Dat.cn at hz; omega, by unfold Dat.dep at hd; omega, rfl⟩
        · exact ⟨ho, by unfold Dat.cn at hz; omega, by unfold Dat.dep at hd; omega, rfl⟩
      rw [efx] at q
      obtain ⟨m, rfl⟩ : ∃ m, n = m + 1 := ⟨n - 1, by omega⟩
      generalize upd H p (.tup [.ty "list", .ty "tuple"]) = H1 at s1
      have hlen : vs.length ≤ sizeLine := by
        rw [rr.len]
        exact Nat.le_trans (cn_len ds) hzs
      have step : ∀ (i : Nat) (x : V) (H2 H3 : Hp), i < vs.length → Same H1 H2 → YAt vs i H2 x H3 → ∀ Q2 : VK, (∀ y H4, Same H2 H4 → (∃ d : Dat, ds[i]? = some d ∧ RpK K H4 y d.fix) → Q2 y H4) →
          gName 1 x (wipe (L2.start ["value", "one"] [.ref a]) [1]) H3 fun σ2 H5 => wipe σ2 [1] = wipe (L2.start ["value", "one"] [.ref a]) [1] ∧ tCall (spFixedN K (m + 1)) [] E0 (tCons (tVar 1) tNil) σ2 H5 Q2 := by
        intro i x H2 H3 hi s2 y Q2 k
        obtain ⟨rfl, hx⟩ := y
        obtain ⟨d2, hd2, r2⟩ := rr.at hx
        exact ⟨rfl, _, rfl, _, d2, rfl, r2.mono (s1.trans s2), okS_at hos hd2, Nat.le_trans (cn_at hd2) hzs, Nat.le_trans (dep_le hd2) (by omega), fun H4 v' s4 r4 => k v' H4 s4 ⟨d2, hd2, r4⟩⟩
      have fin : ∀ (H2 : Hp) (acc : List V), acc.length = vs.length → (∀ (i : Nat) (v : V), acc[i]? = some v → ∃ d : Dat, ds[i]? = some d ∧ RpK K H2 v d.fix) → Same H1 H2 → ∀ l, H2 l = none → Q (.ref l) (upd H2 l (.tup acc)) := by
        intro H2 acc ha hr2 s2 l nl
        refine q _ _ (s1.trans (s2.trans (Same.new nl))) (.tup upd_same (Rps.mono (Same.new nl) (Rps.of ?_ fun i v hv => ?_)))
        · rw [ha, rr.len, fixS_len]
        · obtain ⟨d2, hd2, r2⟩ := hr2 i v hv
          exact ⟨d2.fix, fixS_at hd2, r2⟩
      have mono : ∀ (i : Nat) (v : V) (H H' : Hp), Same H H' → (∃ d : Dat, ds[i]? = some d ∧ RpK K H v d.fix) → ∃ d : Dat, ds[i]? = some d ∧ RpK K H' v d.fix := fun i v H H' s ⟨d, h, r⟩ => ⟨d, h, r.mono s⟩
      have but : ∀ (D2 : Addr) (i : Nat) (v : V) (H : Hp) (acc acc' : List V), (∃ d : Dat, ds[i]? = some d ∧ RpK K H v d.fix) → H D2 = some (.lst acc) → ∃ d : Dat, ds[i]? = some d ∧ RpK K (upd H D2 (.lst acc')) v d.fix :=
        fun D2 i v H acc acc' ⟨d, h, r⟩ hD => ⟨d, h, r.but hD (nl_fix d (okS_at hos h))⟩
      rcases hs with hs | hs
      · exact Or.inl ⟨_, rfl, a, rfl, ⟨_, SqL.of (s1 _ _ hs)⟩, fun D2 hD2 => lc_all walk_list hD2 _ mono (but D2) (fun H' s' => s'.seq (SqL.of (s1 _ _ hs))) hlen step fun H2 acc h1 h2 h3 h4 => ⟨D2, acc, rfl, .inl ⟨SqL.of h3, fin H2 acc h1 h2 h4⟩⟩⟩
      · exact Or.inr ⟨_, rfl, a, rfl, ⟨_, SqT.of (s1 _ _ hs)⟩, fun D2 hD2 => lc_all walk_tup hD2 _ mono (but D2) (fun H' s' => SqT.of (s' _ _ (s1 _ _ hs))) hlen step fun H2 acc h1 h2 h3 h4 => ⟨D2, acc, rfl, .inl ⟨SqL.of h3, fin H2 acc h1 h2 h4⟩⟩⟩
    · rw [e]
      refine iteF ⟨_, rfl, q _ _ (Same.new np) ?_⟩
      rw [ef]
      exact r.mono (Same.new np)
end
end K6
end
section -- KF3
set_option maxHeartbeats 4000000
/-! parts_count. -/
namespace K6
open PySem PySem.Spec PyProof.Rows L2
section
variable {P : Program} {w : World} {K : PySem.W.Frag} {mg : Str → Option Value} {base : Heap}
def pcnt : Dat → Option Nat
  | .str z => counts.lookup z
  | _ => none
def optV : Option Nat → V
  | some n => .int n
  | none => .non
def spCount (K : PySem.W.Frag) : Sp := fun vs H Q _ => ∃ v d, vs = [v] ∧ RpK K H v d ∧ d.okc = true ∧ Q (optV (pcnt d)) H
theorem scCount : FnScope ["word"] ["word"] (defScope (top 72)) := ⟨rfl, rfl, rfl, by decide +kernel, rfl, by decide +kernel, by decide +kernel⟩
theorem d_count (T : Txt w K mg) {fd : FuncData} (F : FnT K "parts_count" 72 fd) : Dfn P w K mg base CX0 1 "parts_count" ["word"] (spCount K) := by
  refine dfn_mk F (T.g _ (by decide +kernel)) (fun _ _ _ _ _ _ us hl => match us, hl with | [_], _ => rfl) (F.ok scCount (fun vs H Q E h => by obtain ⟨v, d, rfl, _⟩ := h; rfl) fun cdv A outer s H vs Q E hr h => ?_)
  have mI := T.z "isinstance" (by decide +kernel)
  have m1 := T.z "str" (by decide +kernel)
  have gC := T.g "COUNTS" (by decide +kernel)
  obtain ⟨es, n, kd⟩ := T.cD
  refine ⟨_, PSs.nox (pss_cons (ps_if (PW.pt (pw_or (pt_not (pt_val (pe_callB call_isi rfl mI (by decide +kernel) (pa_cons (pv 0) (pa_cons (pe_ty "str" m1) pa_nil)))))
      (pw_or1 (pt_cmpR (op_notIn_kd kd) (pv 0) (pe_go gC) rfl)))) (pss_one (ps_ret pe_non)) pss_nil)
    (pss_one (ps_ret (pe_ix ix_kdict (pe_go gC) (pv 0) (fun _ _ => rfl))))), ?_⟩
  obtain ⟨v, d, rfl, r, hc, q⟩ := h
  refine ⟨_, rfl, _, _, _, _, _, rfl, .ty _, ty_of T r hc, kit_B T hc (by simp), _, rfl, ?_⟩
  rcases str_cases d with ⟨z, rfl⟩ | e
  · cases r
    refine iteF ?_
    have q : Q (optV (counts.lookup z)) H := q
    cases ec : counts.lookup z with
    | none =>
      rw [ec] at q
      exact ⟨_, rfl, z, none, rfl, rfl, T.cN z ec, _, rfl, iteT q⟩
    | some n =>
      rw [ec] at q
      obtain ⟨t, ht⟩ := T.cV z n ec
      refine ⟨_, rfl, z, _, rfl, rfl, ht, _, rfl, iteF ?_⟩
      exact ⟨_, rfl, _, z, .int n, rfl, rfl, ⟨es, _, _, kd.at_, kd.lit, ht, ⟨_, rfl⟩⟩, q⟩
  · have q2 : pcnt d = none := by cases d <;> first | rfl | cases e
    rw [q2] at q
    rw [e]
    exact iteT (iteT q)
end
end K6
end
section -- KF4
set_option maxHeartbeats 4000000
/-! Paper.__init__. -/
namespace K6
open PySem PySem.Spec PyProof.Rows L2
/-- a class's method of the text -/
abbrev MtT (K : PySem.W.Frag) (c x qual : Str) (i j : Nat) (fd : FuncData) : Prop := FunD K x qual (defArgs (inClass (top i) j)) (defBody (inClass (top i) j)) (defScope (inClass (top i) j)) [] [] (He.ma K (He.ga K c) x) fd
section
variable {P : Program} {w : World} {K : PySem.W.Frag} {mg : Str → Option Value} {base : Heap}
/-- what Paper.__init__ does, its parts laid as a tuple at p -/
def spPap0 (K : PySem.W.Frag) (n : Nat) : Sp := fun vs H Q _ => ∃ (c : Nat) (x dx p : Addr) (z : Str) (us : List V) (ds : List Dat), vs = [.ref x, .str z, .ref p] ∧ c < 24 ∧ H x = some (.ins (ca K c) dx []) ∧ H p = some (.tup us) ∧ RpsK K H us ds ∧ okS ds = true ∧ cnS ds + 4 ≤ sizeLine ∧ depS ds ≤ n ∧
  ∀ H' t vs', SameBut x H H' → H' x = some (.ins (ca K c) dx [("word", .str z), ("parts", .ref t)]) → H' t = some (.tup vs') → (∀ o, RpsK K (upd H' x o) vs' (fixS ds)) → Q .non H'
theorem scPap0 : FnScope ["self", "word", "parts"] ["self", "word", "parts"] (defScope (inClass (top 27) 0)) := ⟨rfl, rfl, rfl, by decide +kernel, rfl, by decide +kernel, by decide +kernel⟩
/-- Paper.__init__, its arguments as they are written -/
def spPap (K : PySem.W.Frag) (n : Nat) : Sp := fun vs H Q E => ∃ ws rest, vs = ws ++ rest ∧ ws.length = (["self", "word"] : List Str).length ∧ rest.length ≤ sizeLine ∧ ∀ p, H p = none → spPap0 K n (ws ++ [V.ref p]) (upd H p (.tup rest)) Q E
theorem d_pap (T : Txt w K mg) {fd fd0 : FuncData} (F : MtT K "Paper" "__init__" "Paper.__init__" 27 0 fd) (F0 : FnT K "fixed" 25 fd0) (n : Nat) : FnR P w K mg base CX0 (n + 3) (He.ma K (ca K 0) "__init__") (spPap K n) := by
  have D := d_fixed (P := P) (w := w) (base := base) T F0 (n + 2)
  obtain ⟨oc, od, dV, kV, doc, pm, an, cdv, ct, osl, rfl, lk, hcd, hD, _⟩ := F.ex
  obtain rfl : dV = .none := by
    rcases hD with ⟨_, h⟩ | ⟨h, _⟩
    · exact h
    · exact absurd rfl h
  refine StX.fn_star lk hcd scPap0 StX.cxUp_none (fun us rest hl => match us, rest, hl with | [_, _], [], _ => rfl | [_, _], _ :: _, _ => rfl) fun A outer s H vs Q E hr h => ?_
  refine ⟨_, PSs.nox (pss_cons (ps_fld (pv 0) (pv 1) rfl) (pss_one (ps_fld (pv 0) (pe_d D hr pass0 (pa_cons (pv 2) pa_nil)) rfl))), ?_⟩
  obtain ⟨c, x, dx, p, z, us, ds, rfl, hc, hx, hp, r, ho, hz, hd, q⟩ := h
  have pc := T.p c hc
  refine ⟨_, rfl, _, rfl, x, _, dx, [], rfl, hx, pc.cls, pc.noW, by decide, ?_⟩
  have hp1 : upd H x (.ins (ca K c) dx [("word", .str z)]) p = some (.tup us) := by
    rw [upd_ne (ne_of hp hx (by intro z; cases z))]
    exact hp
  have r1 : RpsK K (upd H x (.ins (ca K c) dx [("word", .str z)])) us ds := r.butI hx rfl
  refine ⟨_, rfl, _, .tup ds, rfl, .tup hp1 r1, ho, by unfold Dat.cn; omega, by unfold Dat.dep; omega, fun H1 v' s1 r2 => ?_⟩
  cases r2 with
  | tup ht r2 =>
    rename_i t vs1
    have hx1 := s1 x _ upd_same
    refine ⟨_, rfl, x, _, dx, _, rfl, hx1, pc.cls, pc.noP, (by decide : 1 < 1000), ?_⟩
    refine q _ t vs1 ((SameBut.upd.trans (Same.but s1)).trans SameBut.upd) upd_same ?_ fun o => ?_
    · rw [upd_ne (ne_of ht hx1 (by intro z; cases z))]
      exact ht
    · rw [upd_upd]
      exact r2.butI hx1 rfl
end
end K6
end
section -- KSubC
set_option maxHeartbeats 4000000
/-! What the __init__ of a paper's class does: super().__init__(..), then the parts by their names. -/
namespace K6
open PySem PySem.Spec PyProof.Rows L2 NdefX
/-! ### o.f as a target -/
def gFld (K : PySem.W.Frag) (to : TE) (f : Str) : TG := fun v σ H Q => to σ H fun x H1 => ∃ a C dx fs, x = .ref a ∧ H1 a = some (.ins C dx fs) ∧ Cls K C ∧ NoAttr K C f ∧ fs.length < 1000 ∧ Q σ (upd H1 a (.ins C dx (putF f v fs)))
theorem pg_fld {X : Cx} {o : Expr} {f : Str} {pos : Pos} {to : TE} (ho : PE X o to) : PG X (.Attribute o f pos) (gFld X.K to f) := by
  refine ⟨fun pins s σ H v u Q I r h => ?_⟩
  rw [assign_Attribute]
  refine wpAny_bind (wpAny_holding (thn (ho.run pins s σ H _ I h) fun ov s1 hh => ?_))
  obtain ⟨x, H1, I1, rx, a, C, dx, fs, ex, ea, c, n, l, q⟩ := hh
  subst ex
  obtain rfl : ov = Value.ref a := rx
  refine wpAny_bind (wpAny_standAt (wpAny_bind (wpAny_holding (setattr_ok I1 ea c n l r fun s2 I2 => wpAny_release ⟨σ, _, I2, q⟩))))
/-- self.f1, self.f2, .. -/
def gFlds (K : PySem.W.Frag) : List Str → TGs
  | [] => gNil
  | f :: r => gCons (gFld K (tVar 0) f) (gFlds K r)
def putAll : List Str → List V → List (Str × V) → List (Str × V)
  | f :: r, v :: vs, fs => putAll r vs (putF f v fs)
  | _, _, fs => fs
theorem upd_self {H : Hp} {x : Addr} {o : HO} (h : H x = some o) : upd H x o = H := by
  funext b
  unfold upd
  split
  · rename_i e
    rw [e, h]
  · rfl
theorem putF_len (f : Str) (v : V) : ∀ fs : List (Str × V), (putF f v fs).length ≤ fs.length + 1
  | [] => Nat.le_refl _
  | (g, x) :: r => by
    unfold putF
    split
    · simp
    · have := putF_len f v r
      rw [List.length_cons, List.length_cons]
      omega
theorem flds_ok {K : PySem.W.Frag} {σ : L2.St} {x C dx : Addr} {Q : L2.St → Hp → Prop} (hσ : σ[0]? = some (some (.ref x))) (cl : Cls K C) : ∀ {names : List Str} {vs : List V} {H : Hp} {fs : List (Str × V)}, H x = some (.ins C dx fs) →
    (∀ f ∈ names, NoAttr K C f) → fs.length + names.length < 1000 → names.length = vs.length → Q σ (upd H x (.ins C dx (putAll names vs fs))) → gFlds K names vs σ H Q
  | [], [], H, fs, hx, no, hl, le, q => by
    refine ⟨rfl, ?_⟩
    rw [show putAll [] [] fs = fs from rfl, upd_self hx] at q
    exact q
  | [], _ :: _, _, _, _, _, _, le, _ => by simp at le
  | _ :: _, [], _, _, _, _, _, le, _ => by simp at le
  | f :: r, v :: vs, H, fs, hx, no, hl, le, q => by
    refine ⟨v, vs, rfl, _, hσ, x, C, dx, fs, rfl, hx, cl, no f List.mem_cons_self, by omega, ?_⟩
    refine flds_ok hσ cl upd_same (fun g hg => no g (List.mem_cons_of_mem _ hg)) ?_ (by simpa using le) ?_
    · have := putF_len f v fs
      rw [List.length_cons] at hl
      omega
    · rw [upd_upd]
      exact q
theorem putAll_ne {g : Str} : ∀ {names : List Str} {vs : List V} {fs : List (Str × V)}, g ∉ names → (putAll names vs fs).lookup g = fs.lookup g
  | [], vs, fs, _ => by unfold putAll; rfl
  | f :: r, [], fs, _ => by unfold putAll; rfl
  | f :: r, v :: vs, fs, h => by
    unfold putAll
    rw [putAll_ne (fun z => h (List.mem_cons_of_mem _ z)), lookup_putF, if_neg (fun z => h (by rw [z]; exact List.mem_cons_self))]
theorem putAll_at : ∀ {names : List Str} {vs : List V} {fs : List (Str × V)} {i : Nat} {f : Str} {v : V}, names.Nodup → names[i]? = some f → vs[i]? = some v → (putAll names vs fs).lookup f = some v
  | [], _, _, _, _, _, _, h, _ => by simp at h
  | _ :: _, [], _, _, _, _, _, _, h => by simp at h
  | g :: r, u :: vs, fs, 0, f, v, nd, h1, h2 => by
    have e1 : g = f := Option.some.inj h1
    have e2 : u = v := Option.some.inj h2
    subst e1 e2
    unfold putAll
    rw [putAll_ne (List.nodup_cons.mp nd).1, lookup_putF, if_pos rfl]
  | g :: r, u :: vs, fs, i + 1, f, v, nd, h1, h2 => by
    unfold putAll
    exact putAll_at (List.nodup_cons.mp nd).2 h1 h2
theorem putAll_of {g : Str} {v : V} : ∀ {names : List Str} {vs : List V} {fs : List (Str × V)}, (putAll names vs fs).lookup g = some v → g ∈ names ∨ fs.lookup g = some v
  | [], vs, fs, h => .inr (by unfold putAll at h; exact h)
  | f :: r, [], fs, h => .inr (by unfold putAll at h; exact h)
  | f :: r, u :: vs, fs, h => by
    unfold putAll at h
    rcases putAll_of h with z | z
    · exact .inl (List.mem_cons_of_mem _ z)
    · rw [lookup_putF] at z
      by_cases e : g = f
      · exact .inl (by rw [e]; exact List.mem_cons_self)
      · rw [if_neg e] at z
        exact .inr z
/-- a paper whose parts stand by their names too -/
theorem pap_done {ca : Nat → Addr} {fl : Flds} {H : Hp} {x dx t : Addr} {c : Nat} {z : Str} {vs : List V} {ds : List Dat} (nd : (fl c).Nodup) (nW : ("word" : Str) ∉ fl c) (nP : ("parts" : Str) ∉ fl c) (hl : (fl c).length = vs.length) (hx : H x = some (.ins (ca c) dx (putAll (fl c) vs [("word", .str z), ("parts", .ref t)])))
    (ht : H t = some (.tup vs)) (r : Rps ca fl H vs ds) : Rp ca fl H (.ref x) (.pap c z ds) := by
  refine .pap hx ?_ ?_ ht (fun i f hi => ?_) (fun f v hv => ?_) r
  · rw [putAll_ne nW]
    rfl
  · rw [putAll_ne nP]
    rfl
  · have h1 : i < (fl c).length := (List.getElem?_eq_some_iff.mp hi).1
    exact ⟨vs[i]'(by omega), by simp [show i < vs.length by omega], putAll_at nd hi (by simp [show i < vs.length by omega])⟩
  · rcases putAll_of hv with q | q
    · exact .inr (.inr q)
    · by_cases e1 : f = ("word" : Str)
      · exact .inl e1
      · by_cases e2 : f = ("parts" : Str)
        · exact .inr (.inl e2)
        · have b1 : (f == ("word" : Str)) = false := by simpa using e1
          have b2 : (f == ("parts" : Str)) = false := by simpa using e2
          rw [List.lookup, b1] at q
          simp only [] at q
          rw [List.lookup, b2] at q
          simp [List.lookup] at q
/-! ### what the written part says of such a class -/
structure SubC (P : Program) (K : PySem.W.Frag) (c : Nat) (qual : Str) (st : Stmt) : Prop where
  ex : ∃ (oc : Value) (od : Option Addr) (kV doc pm : Value) (an : Option Addr) (ct : Value) (osl : Array (Option Value)) (cc cda : Addr),
    K.lookup (He.ma K (ca K c) "__init__") = some ⟨oc, od, .func (PySem.W.fnX "__init__" qual (defArgs st) (defBody st) (defScope st) [("__class__", cc)] .none kV doc pm an (.ref cda) ct), osl⟩ ∧ PySem.W.codeIn K (.ref cda) qual = true ∧ SupF K P (ca K c) cc cda
  mro : PySem.W.mroIn K (ca K c) (.ref (ca K c)) = some true
  sup : PySem.W.ks_superIn K (ca K c) (ca K c) "__init__" = some (some (.ref (He.ma K (ca K 0) "__init__")))
  ty : PySem.W.typeIn K (.ref (He.ma K (ca K 0) "__init__")) = some (.type "function")
  fn : PySem.W.fnIn K (He.ma K (ca K 0) "__init__") = true
  mkr : Mk K (ca K c) (He.ma K (ca K c) "__init__")
section
variable {P : Program} {w : World} {K : PySem.W.Frag} {mg : Str → Option Value} {base : Heap}
/-- an __init__'s promise: a paper stands there -/
def spCls (K : PySem.W.Frag) (n c : Nat) (z : Str) : Sp := fun vs H Q _ => ∃ (x dx : Addr) (us : List V) (ds : List Dat), vs = .ref x :: us ∧ us.length = (fl c).length ∧ H x = some (.ins (ca K c) dx []) ∧ RpsK K H us ds ∧ okS ds = true ∧ cnS ds + 4 ≤ sizeLine ∧ depS ds ≤ n ∧
  ∀ H', SameBut x H H' → RpK K H' (.ref x) (.pap c z (fixS ds)) → Q .non H'
theorem spPap_of {n c : Nat} {x dx : Addr} {z : Str} {us : List V} {ds : List Dat} {H : Hp} {Qk : VK} {E : XK} (hc : c < 24) (hx : H x = some (.ins (ca K c) dx [])) (r : RpsK K H us ds) (ho : okS ds = true) (hz : cnS ds + 4 ≤ sizeLine) (hd : depS ds ≤ n)
    (q : ∀ H' t vs', SameBut x H H' → H' x = some (.ins (ca K c) dx [("word", .str z), ("parts", .ref t)]) → H' t = some (.tup vs') → (∀ o, RpsK K (upd H' x o) vs' (fixS ds)) → Qk .non H') : spPap K n (.ref x :: .str z :: us) H Qk E := by
  refine ⟨[.ref x, .str z], us, rfl, rfl, ?_, fun p np => ⟨c, x, dx, p, z, us, ds, rfl, hc, ?_, upd_same, r.mono (Same.new np), ho, hz, hd, fun H' t vs' sb h1 h2 h3 => q H' t vs' (fun b o hb e => sb b o hb (Same.new np b o e)) h1 h2 h3⟩⟩
  · rw [r.len]
    exact Nat.le_trans (cn_len ds) (by omega)
  · exact Same.new np _ _ hx
end
end K6
end
section -- KCls
set_option maxHeartbeats 4000000
/-! Each paper class's __init__ keeps its promise (printed by gen_cls.py). -/
namespace K6
open PySem PySem.Spec PyProof.Rows L2 NdefX
/-- a class's __init__ that keeps its promise, its arguments bound -/
def ClsOk (P : Program) (w : World) (K : PySem.W.Frag) (mg : Str → Option Value) (base : Heap) (k n c : Nat) (ps : List Str) (z : Str) : Prop :=
  ∃ fd, FnOk P w K mg base CX0 k (He.ma K (ca K c) "__init__") fd ps (spCls K n c z) ∧ Binds K fd ps []
theorem two_step {H : Hp} {x p p2 : Addr} {a b o o1 : HO} (h1 : H p = none) (h2 : upd (upd H p a) x o1 p2 = none) : Same (upd H x o) (upd (upd (upd (upd H p a) x o1) p2 b) x o) := fun c u e => by
  by_cases hx : c = x
  · subst hx
    rw [upd_same] at e ⊢
    exact e
  · rw [upd_ne hx] at e ⊢
    have hp : c ≠ p := ne_of_none e h1
    have z : upd (upd H p a) x o1 c = some u := by
      rw [upd_ne hx, upd_ne hp]
      exact e
    rw [upd_ne (ne_of_none z h2)]
    exact z
section
variable {P : Program} {w : World} {K : PySem.W.Frag} {mg : Str → Option Value} {base : Heap}

theorem sc_Alike : NScope ["self", "lacks", "__class__"] ["self", "lacks"] ["__class__"] (defScope (inClass (top 32) 0)) := ⟨rfl, rfl, rfl, by decide +kernel, rfl, by decide +kernel, by decide +kernel, by decide +kernel, by decide +kernel⟩
theorem d_Alike (T : Txt w K mg) (S : SubC P K 2 "Alike.__init__" (inClass (top 32) 0)) {n : Nat} (FP : FnR P w K mg base CX0 (n + 3) (He.ma K (ca K 0) "__init__") (spPap K n)) : ClsOk P w K mg base (n + 4) n 2 ["self", "lacks"] "alike" := by
  obtain ⟨oc, od, kV, doc, pm, an, ct, osl, cc, cda, lk, hcd, SF⟩ := S.ex
  have pc := T.p 2 (by decide)
  refine ⟨_, fn_supA (F := ⟨"__init__", "Alike.__init__", defArgs (inClass (top 32) 0), defBody (inClass (top 32) 0), defScope (inClass (top 32) 0), [("__class__", cc)], cda⟩) (spB := spPap K n) lk hcd rfl SF sc_Alike rfl (fun vs H Q E h => ?_) rfl rfl (by decide) rfl rfl rfl S.mro S.sup S.ty S.fn FP (Nat.le_refl _) (fun A outer s H E => fun _ _ _ _ _ _ _ h => h.elim) fun A outer s H vs Q E hr h => ?_, ?_⟩
  · obtain ⟨x, dx, us, ds, rfl, hl, _⟩ := h
    show us.length + 1 = 2
    rw [hl]
    rfl
  · refine ⟨_, _, (pa_cons pe_str (pa_cons (pv 1) pa_nil)), PSs.nox (pss_one (ps_asg (pe_fld (pv 0) rfl) (pg_tup rfl (pgs_cons (pg_fld (pv 0)) pgs_nil)))), ?_⟩
    obtain ⟨x, dx, us, ds, rfl, hl, hx, r, ho, hz, hd, q⟩ := h
    match us, hl with
    | [v1], _ =>
      refine ⟨x, dx, [], rfl, hx, _, rfl, spPap_of (c := 2) (by decide) hx r ho hz hd fun H' t vs' sb h1 h2 h3 => ?_⟩
      have hl' : vs'.length = 1 := by rw [(h3 (.lst [])).len, fixS_len, ← r.len]; rfl
      refine ⟨_, rfl, x, _, dx, _, _, rfl, h1, pc.cls, pc.noP, rfl, t, vs', rfl, SqT.of h2, hl', ?_⟩
      exact flds_ok (names := fl 2) rfl pc.cls h1 pc.noF (show 2 + (fl 2).length < 1000 by decide +kernel) hl'.symm (q _ (sb.trans SameBut.upd) (pap_done (fl := fl) (by decide +kernel) (by decide +kernel) (by decide +kernel) hl'.symm upd_same (by rw [upd_ne (ne_of h2 h1 (by intro z; cases z))]; exact h2) (h3 _)))
  · exact .all fun us hl => match us, hl with | [_, _], _ => rfl
theorem sc_Apart : NScope ["self", "kind", "lacks", "__class__"] ["self", "kind", "lacks"] ["__class__"] (defScope (inClass (top 33) 0)) := ⟨rfl, rfl, rfl, by decide +kernel, rfl, by decide +kernel, by decide +kernel, by decide +kernel, by decide +kernel⟩
theorem d_Apart (T : Txt w K mg) (S : SubC P K 3 "Apart.__init__" (inClass (top 33) 0)) {n : Nat} (FP : FnR P w K mg base CX0 (n + 3) (He.ma K (ca K 0) "__init__") (spPap K n)) : ClsOk P w K mg base (n + 4) n 3 ["self", "kind", "lacks"] "apart" := by
  obtain ⟨oc, od, kV, doc, pm, an, ct, osl, cc, cda, lk, hcd, SF⟩ := S.ex
  have pc := T.p 3 (by decide)
  refine ⟨_, fn_supA (F := ⟨"__init__", "Apart.__init__", defArgs (inClass (top 33) 0), defBody (inClass (top 33) 0), defScope (inClass (top 33) 0), [("__class__", cc)], cda⟩) (spB := spPap K n) lk hcd rfl SF sc_Apart rfl (fun vs H Q E h => ?_) rfl rfl (by decide) rfl rfl rfl S.mro S.sup S.ty S.fn FP (Nat.le_refl _) (fun A outer s H E => fun _ _ _ _ _ _ _ h => h.elim) fun A outer s H vs Q E hr h => ?_, ?_⟩
  · obtain ⟨x, dx, us, ds, rfl, hl, _⟩ := h
    show us.length + 1 = 3
    rw [hl]
    rfl
  · refine ⟨_, _, (pa_cons pe_str (pa_cons (pv 1) (pa_cons (pv 2) pa_nil))), PSs.nox (pss_one (ps_asg (pe_fld (pv 0) rfl) (pg_tup rfl (pgs_cons (pg_fld (pv 0)) (pgs_cons (pg_fld (pv 0)) pgs_nil))))), ?_⟩
    obtain ⟨x, dx, us, ds, rfl, hl, hx, r, ho, hz, hd, q⟩ := h
    match us, hl with
    | [v1, v2], _ =>
      refine ⟨x, dx, [], rfl, hx, _, rfl, _, rfl, spPap_of (c := 3) (by decide) hx r ho hz hd fun H' t vs' sb h1 h2 h3 => ?_⟩
      have hl' : vs'.length = 2 := by rw [(h3 (.lst [])).len, fixS_len, ← r.len]; rfl
      refine ⟨_, rfl, x, _, dx, _, _, rfl, h1, pc.cls, pc.noP, rfl, t, vs', rfl, SqT.of h2, hl', ?_⟩
      exact flds_ok (names := fl 3) rfl pc.cls h1 pc.noF (show 2 + (fl 3).length < 1000 by decide +kernel) hl'.symm (q _ (sb.trans SameBut.upd) (pap_done (fl := fl) (by decide +kernel) (by decide +kernel) (by decide +kernel) hl'.symm upd_same (by rw [upd_ne (ne_of h2 h1 (by intro z; cases z))]; exact h2) (h3 _)))
  · exact .all fun us hl => match us, hl with | [_, _, _], _ => rfl
theorem sc_Bounded : NScope ["self", "most", "told", "partings", "rows", "__class__"] ["self", "most", "told", "partings", "rows"] ["__class__"] (defScope (inClass (top 35) 0)) := ⟨rfl, rfl, rfl, by decide +kernel, rfl, by decide +kernel, by decide +kernel, by decide +kernel, by decide +kernel⟩
theorem d_Bounded (T : Txt w K mg) (S : SubC P K 4 "Bounded.__init__" (inClass (top 35) 0)) {n : Nat} (FP : FnR P w K mg base CX0 (n + 3) (He.ma K (ca K 0) "__init__") (spPap K n)) : ClsOk P w K mg base (n + 4) n 4 ["self", "most", "told", "partings", "rows"] "bounded" := by
  obtain ⟨oc, od, kV, doc, pm, an, ct, osl, cc, cda, lk, hcd, SF⟩ := S.ex
  have pc := T.p 4 (by decide)
  refine ⟨_, fn_supA (F := ⟨"__init__", "Bounded.__init__", defArgs (inClass (top 35) 0), defBody (inClass (top 35) 0), defScope (inClass (top 35) 0), [("__class__", cc)], cda⟩) (spB := spPap K n) lk hcd rfl SF sc_Bounded rfl (fun vs H Q E h => ?_) rfl rfl (by decide) rfl rfl rfl S.mro S.sup S.ty S.fn FP (Nat.le_refl _) (fun A outer s H E => fun _ _ _ _ _ _ _ h => h.elim) fun A outer s H vs Q E hr h => ?_, ?_⟩
  · obtain ⟨x, dx, us, ds, rfl, hl, _⟩ := h
    show us.length + 1 = 5
    rw [hl]
    rfl
  · refine ⟨_, _, (pa_cons pe_str (pa_cons (pv 1) (pa_cons (pv 2) (pa_cons (pv 3) (pa_cons (pv 4) pa_nil))))), PSs.nox (pss_one (ps_asg (pe_fld (pv 0) rfl) (pg_tup rfl (pgs_cons (pg_fld (pv 0)) (pgs_cons (pg_fld (pv 0)) (pgs_cons (pg_fld (pv 0)) (pgs_cons (pg_fld (pv 0)) pgs_nil))))))), ?_⟩
    obtain ⟨x, dx, us, ds, rfl, hl, hx, r, ho, hz, hd, q⟩ := h
    match us, hl with
    | [v1, v2, v3, v4], _ =>
      refine ⟨x, dx, [], rfl, hx, _, rfl, _, rfl, _, rfl, _, rfl, spPap_of (c := 4) (by decide) hx r ho hz hd fun H' t vs' sb h1 h2 h3 => ?_⟩
      have hl' : vs'.length = 4 := by rw [(h3 (.lst [])).len, fixS_len, ← r.len]; rfl
      refine ⟨_, rfl, x, _, dx, _, _, rfl, h1, pc.cls, pc.noP, rfl, t, vs', rfl, SqT.of h2, hl', ?_⟩
      exact flds_ok (names := fl 4) rfl pc.cls h1 pc.noF (show 2 + (fl 4).length < 1000 by decide +kernel) hl'.symm (q _ (sb.trans SameBut.upd) (pap_done (fl := fl) (by decide +kernel) (by decide +kernel) (by decide +kernel) hl'.symm upd_same (by rw [upd_ne (ne_of h2 h1 (by intro z; cases z))]; exact h2) (h3 _)))
  · exact .all fun us hl => match us, hl with | [_, _, _, _, _], _ => rfl
theorem sc_Deal : NScope ["self", "trees", "__class__"] ["self", "trees"] ["__class__"] (defScope (inClass (top 38) 0)) := ⟨rfl, rfl, rfl, by decide +kernel, rfl, by decide +kernel, by decide +kernel, by decide +kernel, by decide +kernel⟩
theorem d_Deal (T : Txt w K mg) (S : SubC P K 5 "Deal.__init__" (inClass (top 38) 0)) {n : Nat} (FP : FnR P w K mg base CX0 (n + 3) (He.ma K (ca K 0) "__init__") (spPap K n)) : ClsOk P w K mg base (n + 4) n 5 ["self", "trees"] "deal" := by
  obtain ⟨oc, od, kV, doc, pm, an, ct, osl, cc, cda, lk, hcd, SF⟩ := S.ex
  have pc := T.p 5 (by decide)
  refine ⟨_, fn_supA (F := ⟨"__init__", "Deal.__init__", defArgs (inClass (top 38) 0), defBody (inClass (top 38) 0), defScope (inClass (top 38) 0), [("__class__", cc)], cda⟩) (spB := spPap K n) lk hcd rfl SF sc_Deal rfl (fun vs H Q E h => ?_) rfl rfl (by decide) rfl rfl rfl S.mro S.sup S.ty S.fn FP (Nat.le_refl _) (fun A outer s H E => fun _ _ _ _ _ _ _ h => h.elim) fun A outer s H vs Q E hr h => ?_, ?_⟩
  · obtain ⟨x, dx, us, ds, rfl, hl, _⟩ := h
    show us.length + 1 = 2
    rw [hl]
    rfl
  · refine ⟨_, _, (pa_cons pe_str (pa_cons (pv 1) pa_nil)), PSs.nox (pss_one (ps_asg (pe_fld (pv 0) rfl) (pg_tup rfl (pgs_cons (pg_fld (pv 0)) pgs_nil)))), ?_⟩
    obtain ⟨x, dx, us, ds, rfl, hl, hx, r, ho, hz, hd, q⟩ := h
    match us, hl with
    | [v1], _ =>
      refine ⟨x, dx, [], rfl, hx, _, rfl, spPap_of (c := 5) (by decide) hx r ho hz hd fun H' t vs' sb h1 h2 h3 => ?_⟩
      have hl' : vs'.length = 1 := by rw [(h3 (.lst [])).len, fixS_len, ← r.len]; rfl
      refine ⟨_, rfl, x, _, dx, _, _, rfl, h1, pc.cls, pc.noP, rfl, t, vs', rfl, SqT.of h2, hl', ?_⟩
      exact flds_ok (names := fl 5) rfl pc.cls h1 pc.noF (show 2 + (fl 5).length < 1000 by decide +kernel) hl'.symm (q _ (sb.trans SameBut.upd) (pap_done (fl := fl) (by decide +kernel) (by decide +kernel) (by decide +kernel) hl'.symm upd_same (by rw [upd_ne (ne_of h2 h1 (by intro z; cases z))]; exact h2) (h3 _)))
  · exact .all fun us hl => match us, hl with | [_, _], _ => rfl
theorem sc_Every : NScope ["self", "rows", "__class__"] ["self", "rows"] ["__class__"] (defScope (inClass (top 43) 0)) := ⟨rfl, rfl, rfl, by decide +kernel, rfl, by decide +kernel, by decide +kernel, by decide +kernel, by decide +kernel⟩
theorem d_Every (T : Txt w K mg) (S : SubC P K 6 "Every.__init__" (inClass (top 43) 0)) {n : Nat} (FP : FnR P w K mg base CX0 (n + 3) (He.ma K (ca K 0) "__init__") (spPap K n)) : ClsOk P w K mg base (n + 4) n 6 ["self", "rows"] "every" := by
  obtain ⟨oc, od, kV, doc, pm, an, ct, osl, cc, cda, lk, hcd, SF⟩ := S.ex
  have pc := T.p 6 (by decide)
  refine ⟨_, fn_supA (F := ⟨"__init__", "Every.__init__", defArgs (inClass (top 43) 0), defBody (inClass (top 43) 0), defScope (inClass (top 43) 0), [("__class__", cc)], cda⟩) (spB := spPap K n) lk hcd rfl SF sc_Every rfl (fun vs H Q E h => ?_) rfl rfl (by decide) rfl rfl rfl S.mro S.sup S.ty S.fn FP (Nat.le_refl _) (fun A outer s H E => fun _ _ _ _ _ _ _ h => h.elim) fun A outer s H vs Q E hr h => ?_, ?_⟩
  · obtain ⟨x, dx, us, ds, rfl, hl, _⟩ := h
    show us.length + 1 = 2
    rw [hl]
    rfl
  · refine ⟨_, _, (pa_cons pe_str (pa_cons (pv 1) pa_nil)), PSs.nox (pss_one (ps_fld (pv 0) (pe_ix ix_tup (pe_fld (pv 0) rfl) pe_int (fun _ _ => rfl)) rfl)), ?_⟩
    obtain ⟨x, dx, us, ds, rfl, hl, hx, r, ho, hz, hd, q⟩ := h
    match us, hl with
    | [v1], _ =>
      refine ⟨x, dx, [], rfl, hx, _, rfl, spPap_of (c := 6) (by decide) hx r ho hz hd fun H' t vs' sb h1 h2 h3 => ?_⟩
      have hl' : vs'.length = 1 := by rw [(h3 (.lst [])).len, fixS_len, ← r.len]; rfl
      match vs', hl' with
      | [u1], hl' =>
        refine ⟨_, rfl, x, _, dx, _, _, rfl, h1, pc.cls, pc.noP, rfl, t, [u1], _, u1, rfl, rfl, SqT.of h2, rfl, _, rfl, x, _, dx, _, rfl, h1, pc.cls, pc.noF _ (by decide +kernel), (show 2 < 1000 by decide), ?_⟩
        exact q _ (sb.trans SameBut.upd) (pap_done (vs := [u1]) (fl := fl) (by decide +kernel) (by decide +kernel) (by decide +kernel) rfl upd_same (by rw [upd_ne (ne_of h2 h1 (by intro z; cases z))]; exact h2) (h3 _))
  · exact .all fun us hl => match us, hl with | [_, _], _ => rfl
theorem sc_Fallen : NScope ["self", "told", "groups", "__class__"] ["self", "told", "groups"] ["__class__"] (defScope (inClass (top 44) 0)) := ⟨rfl, rfl, rfl, by decide +kernel, rfl, by decide +kernel, by decide +kernel, by decide +kernel, by decide +kernel⟩
theorem d_Fallen (T : Txt w K mg) (S : SubC P K 7 "Fallen.__init__" (inClass (top 44) 0)) {n : Nat} (FP : FnR P w K mg base CX0 (n + 3) (He.ma K (ca K 0) "__init__") (spPap K n)) : ClsOk P w K mg base (n + 4) n 7 ["self", "told", "groups"] "fallen" := by
  obtain ⟨oc, od, kV, doc, pm, an, ct, osl, cc, cda, lk, hcd, SF⟩ := S.ex
  have pc := T.p 7 (by decide)
  refine ⟨_, fn_supA (F := ⟨"__init__", "Fallen.__init__", defArgs (inClass (top 44) 0), defBody (inClass (top 44) 0), defScope (inClass (top 44) 0), [("__class__", cc)], cda⟩) (spB := spPap K n) lk hcd rfl SF sc_Fallen rfl (fun vs H Q E h => ?_) rfl rfl (by decide) rfl rfl rfl S.mro S.sup S.ty S.fn FP (Nat.le_refl _) (fun A outer s H E => fun _ _ _ _ _ _ _ h => h.elim) fun A outer s H vs Q E hr h => ?_, ?_⟩
  · obtain ⟨x, dx, us, ds, rfl, hl, _⟩ := h
    show us.length + 1 = 3
    rw [hl]
    rfl
  · refine ⟨_, _, (pa_cons pe_str (pa_cons (pv 1) (pa_cons (pv 2) pa_nil))), PSs.nox (pss_one (ps_asg (pe_fld (pv 0) rfl) (pg_tup rfl (pgs_cons (pg_fld (pv 0)) (pgs_cons (pg_fld (pv 0)) pgs_nil))))), ?_⟩
    obtain ⟨x, dx, us, ds, rfl, hl, hx, r, ho, hz, hd, q⟩ := h
    match us, hl with
    | [v1, v2], _ =>
      refine ⟨x, dx, [], rfl, hx, _, rfl, _, rfl, spPap_of (c := 7) (by decide) hx r ho hz hd fun H' t vs' sb h1 h2 h3 => ?_⟩
      have hl' : vs'.length = 2 := by rw [(h3 (.lst [])).len, fixS_len, ← r.len]; rfl
      refine ⟨_, rfl, x, _, dx, _, _, rfl, h1, pc.cls, pc.noP, rfl, t, vs', rfl, SqT.of h2, hl', ?_⟩
      exact flds_ok (names := fl 7) rfl pc.cls h1 pc.noF (show 2 + (fl 7).length < 1000 by decide +kernel) hl'.symm (q _ (sb.trans SameBut.upd) (pap_done (fl := fl) (by decide +kernel) (by decide +kernel) (by decide +kernel) hl'.symm upd_same (by rw [upd_ne (ne_of h2 h1 (by intro z; cases z))]; exact h2) (h3 _)))
  · exact .all fun us hl => match us, hl with | [_, _, _], _ => rfl
theorem sc_Falls : NScope ["self", "rows", "__class__"] ["self", "rows"] ["__class__"] (defScope (inClass (top 54) 0)) := ⟨rfl, rfl, rfl, by decide +kernel, rfl, by decide +kernel, by decide +kernel, by decide +kernel, by decide +kernel⟩
theorem d_Falls (T : Txt w K mg) (S : SubC P K 8 "Falls.__init__" (inClass (top 54) 0)) {n : Nat} (FP : FnR P w K mg base CX0 (n + 3) (He.ma K (ca K 0) "__init__") (spPap K n)) : ClsOk P w K mg base (n + 4) n 8 ["self", "rows"] "falls" := by
  obtain ⟨oc, od, kV, doc, pm, an, ct, osl, cc, cda, lk, hcd, SF⟩ := S.ex
  have pc := T.p 8 (by decide)
  refine ⟨_, fn_supA (F := ⟨"__init__", "Falls.__init__", defArgs (inClass (top 54) 0), defBody (inClass (top 54) 0), defScope (inClass (top 54) 0), [("__class__", cc)], cda⟩) (spB := spPap K n) lk hcd rfl SF sc_Falls rfl (fun vs H Q E h => ?_) rfl rfl (by decide) rfl rfl rfl S.mro S.sup S.ty S.fn FP (Nat.le_refl _) (fun A outer s H E => fun _ _ _ _ _ _ _ h => h.elim) fun A outer s H vs Q E hr h => ?_, ?_⟩
  · obtain ⟨x, dx, us, ds, rfl, hl, _⟩ := h
    show us.length + 1 = 2
    rw [hl]
    rfl
  · refine ⟨_, _, (pa_cons pe_str (pa_cons (pv 1) pa_nil)), PSs.nox (pss_one (ps_fld (pv 0) (pe_ix ix_tup (pe_fld (pv 0) rfl) pe_int (fun _ _ => rfl)) rfl)), ?_⟩
    obtain ⟨x, dx, us, ds, rfl, hl, hx, r, ho, hz, hd, q⟩ := h
    match us, hl with
    | [v1], _ =>
      refine ⟨x, dx, [], rfl, hx, _, rfl, spPap_of (c := 8) (by decide) hx r ho hz hd fun H' t vs' sb h1 h2 h3 => ?_⟩
      have hl' : vs'.length = 1 := by rw [(h3 (.lst [])).len, fixS_len, ← r.len]; rfl
      match vs', hl' with
      | [u1], hl' =>
        refine ⟨_, rfl, x, _, dx, _, _, rfl, h1, pc.cls, pc.noP, rfl, t, [u1], _, u1, rfl, rfl, SqT.of h2, rfl, _, rfl, x, _, dx, _, rfl, h1, pc.cls, pc.noF _ (by decide +kernel), (show 2 < 1000 by decide), ?_⟩
        exact q _ (sb.trans SameBut.upd) (pap_done (vs := [u1]) (fl := fl) (by decide +kernel) (by decide +kernel) (by decide +kernel) rfl upd_same (by rw [upd_ne (ne_of h2 h1 (by intro z; cases z))]; exact h2) (h3 _))
  · exact .all fun us hl => match us, hl with | [_, _], _ => rfl
theorem sc_Grows : NScope ["self", "before", "again", "after", "partings", "__class__"] ["self", "before", "again", "after", "partings"] ["__class__"] (defScope (inClass (top 36) 0)) := ⟨rfl, rfl, rfl, by decide +kernel, rfl, by decide +kernel, by decide +kernel, by decide +kernel, by decide +kernel⟩
theorem d_Grows (T : Txt w K mg) (S : SubC P K 9 "Grows.__init__" (inClass (top 36) 0)) {n : Nat} (FP : FnR P w K mg base CX0 (n + 3) (He.ma K (ca K 0) "__init__") (spPap K n)) : ClsOk P w K mg base (n + 4) n 9 ["self", "before", "again", "after", "partings"] "grows" := by
  obtain ⟨oc, od, kV, doc, pm, an, ct, osl, cc, cda, lk, hcd, SF⟩ := S.ex
  have pc := T.p 9 (by decide)
  refine ⟨_, fn_supA (F := ⟨"__init__", "Grows.__init__", defArgs (inClass (top 36) 0), defBody (inClass (top 36) 0), defScope (inClass (top 36) 0), [("__class__", cc)], cda⟩) (spB := spPap K n) lk hcd rfl SF sc_Grows rfl (fun vs H Q E h => ?_) rfl rfl (by decide) rfl rfl rfl S.mro S.sup S.ty S.fn FP (Nat.le_refl _) (fun A outer s H E => fun _ _ _ _ _ _ _ h => h.elim) fun A outer s H vs Q E hr h => ?_, ?_⟩
  · obtain ⟨x, dx, us, ds, rfl, hl, _⟩ := h
    show us.length + 1 = 5
    rw [hl]
    rfl
  · refine ⟨_, _, (pa_cons pe_str (pa_cons (pv 1) (pa_cons (pv 2) (pa_cons (pv 3) (pa_cons (pv 4) pa_nil))))), PSs.nox (pss_one (ps_asg (pe_fld (pv 0) rfl) (pg_tup rfl (pgs_cons (pg_fld (pv 0)) (pgs_cons (pg_fld (pv 0)) (pgs_cons (pg_fld (pv 0)) (pgs_cons (pg_fld (pv 0)) pgs_nil))))))), ?_⟩
    obtain ⟨x, dx, us, ds, rfl, hl, hx, r, ho, hz, hd, q⟩ := h
    match us, hl with
    | [v1, v2, v3, v4], _ =>
      refine ⟨x, dx, [], rfl, hx, _, rfl, _, rfl, _, rfl, _, rfl, spPap_of (c := 9) (by decide) hx r ho hz hd fun H' t vs' sb h1 h2 h3 => ?_⟩
      have hl' : vs'.length = 4 := by rw [(h3 (.lst [])).len, fixS_len, ← r.len]; rfl
      refine ⟨_, rfl, x, _, dx, _, _, rfl, h1, pc.cls, pc.noP, rfl, t, vs', rfl, SqT.of h2, hl', ?_⟩
      exact flds_ok (names := fl 9) rfl pc.cls h1 pc.noF (show 2 + (fl 9).length < 1000 by decide +kernel) hl'.symm (q _ (sb.trans SameBut.upd) (pap_done (fl := fl) (by decide +kernel) (by decide +kernel) (by decide +kernel) hl'.symm upd_same (by rw [upd_ne (ne_of h2 h1 (by intro z; cases z))]; exact h2) (h3 _)))
  · exact .all fun us hl => match us, hl with | [_, _, _, _, _], _ => rfl
theorem sc_Lack : NScope ["self", "number", "groups", "rods", "trees", "__class__"] ["self", "number", "groups", "rods", "trees"] ["__class__"] (defScope (inClass (top 30) 0)) := ⟨rfl, rfl, rfl, by decide +kernel, rfl, by decide +kernel, by decide +kernel, by decide +kernel, by decide +kernel⟩
theorem d_Lack (T : Txt w K mg) (S : SubC P K 10 "Lack.__init__" (inClass (top 30) 0)) {n : Nat} (FP : FnR P w K mg base CX0 (n + 3) (He.ma K (ca K 0) "__init__") (spPap K n)) : ClsOk P w K mg base (n + 4) n 10 ["self", "number", "groups", "rods", "trees"] "lack" := by
  obtain ⟨oc, od, kV, doc, pm, an, ct, osl, cc, cda, lk, hcd, SF⟩ := S.ex
  have pc := T.p 10 (by decide)
  refine ⟨_, fn_supA (F := ⟨"__init__", "Lack.__init__", defArgs (inClass (top 30) 0), defBody (inClass (top 30) 0), defScope (inClass (top 30) 0), [("__class__", cc)], cda⟩) (spB := spPap K n) lk hcd rfl SF sc_Lack rfl (fun vs H Q E h => ?_) rfl rfl (by decide) rfl rfl rfl S.mro S.sup S.ty S.fn FP (Nat.le_refl _) (fun A outer s H E => fun _ _ _ _ _ _ _ h => h.elim) fun A outer s H vs Q E hr h => ?_, ?_⟩
  · obtain ⟨x, dx, us, ds, rfl, hl, _⟩ := h
    show us.length + 1 = 5
    rw [hl]
    rfl
  · refine ⟨_, _, (pa_cons pe_str (pa_cons (pv 1) (pa_cons (pv 2) (pa_cons (pv 3) (pa_cons (pv 4) pa_nil))))), PSs.nox (pss_one (ps_asg (pe_fld (pv 0) rfl) (pg_tup rfl (pgs_cons (pg_fld (pv 0)) (pgs_cons (pg_fld (pv 0)) (pgs_cons (pg_fld (pv 0)) (pgs_cons (pg_fld (pv 0)) pgs_nil))))))), ?_⟩
    obtain ⟨x, dx, us, ds, rfl, hl, hx, r, ho, hz, hd, q⟩ := h
    match us, hl with
    | [v1, v2, v3, v4], _ =>
      refine ⟨x, dx, [], rfl, hx, _, rfl, _, rfl, _, rfl, _, rfl, spPap_of (c := 10) (by decide) hx r ho hz hd fun H' t vs' sb h1 h2 h3 => ?_⟩
      have hl' : vs'.length = 4 := by rw [(h3 (.lst [])).len, fixS_len, ← r.len]; rfl
      refine ⟨_, rfl, x, _, dx, _, _, rfl, h1, pc.cls, pc.noP, rfl, t, vs', rfl, SqT.of h2, hl', ?_⟩
      exact flds_ok (names := fl 10) rfl pc.cls h1 pc.noF (show 2 + (fl 10).length < 1000 by decide +kernel) hl'.symm (q _ (sb.trans SameBut.upd) (pap_done (fl := fl) (by decide +kernel) (by decide +kernel) (by decide +kernel) hl'.symm upd_same (by rw [upd_ne (ne_of h2 h1 (by intro z; cases z))]; exact h2) (h3 _)))
  · exact .all fun us hl => match us, hl with | [_, _, _, _, _], _ => rfl
theorem sc_Lots : NScope ["self", "least", "greatest", "__class__"] ["self", "least", "greatest"] ["__class__"] (defScope (inClass (top 49) 0)) := ⟨rfl, rfl, rfl, by decide +kernel, rfl, by decide +kernel, by decide +kernel, by decide +kernel, by decide +kernel⟩
theorem d_Lots (T : Txt w K mg) (S : SubC P K 11 "Lots.__init__" (inClass (top 49) 0)) {n : Nat} (FP : FnR P w K mg base CX0 (n + 3) (He.ma K (ca K 0) "__init__") (spPap K n)) : ClsOk P w K mg base (n + 4) n 11 ["self", "least", "greatest"] "lots" := by
  obtain ⟨oc, od, kV, doc, pm, an, ct, osl, cc, cda, lk, hcd, SF⟩ := S.ex
  have pc := T.p 11 (by decide)
  refine ⟨_, fn_supA (F := ⟨"__init__", "Lots.__init__", defArgs (inClass (top 49) 0), defBody (inClass (top 49) 0), defScope (inClass (top 49) 0), [("__class__", cc)], cda⟩) (spB := spPap K n) lk hcd rfl SF sc_Lots rfl (fun vs H Q E h => ?_) rfl rfl (by decide) rfl rfl rfl S.mro S.sup S.ty S.fn FP (Nat.le_refl _) (fun A outer s H E => fun _ _ _ _ _ _ _ h => h.elim) fun A outer s H vs Q E hr h => ?_, ?_⟩
  · obtain ⟨x, dx, us, ds, rfl, hl, _⟩ := h
    show us.length + 1 = 3
    rw [hl]
    rfl
  · refine ⟨_, _, (pa_cons pe_str (pa_cons (pv 1) (pa_cons (pv 2) pa_nil))), PSs.nox (pss_one (ps_asg (pe_fld (pv 0) rfl) (pg_tup rfl (pgs_cons (pg_fld (pv 0)) (pgs_cons (pg_fld (pv 0)) pgs_nil))))), ?_⟩
    obtain ⟨x, dx, us, ds, rfl, hl, hx, r, ho, hz, hd, q⟩ := h
    match us, hl with
    | [v1, v2], _ =>
      refine ⟨x, dx, [], rfl, hx, _, rfl, _, rfl, spPap_of (c := 11) (by decide) hx r ho hz hd fun H' t vs' sb h1 h2 h3 => ?_⟩
      have hl' : vs'.length = 2 := by rw [(h3 (.lst [])).len, fixS_len, ← r.len]; rfl
      refine ⟨_, rfl, x, _, dx, _, _, rfl, h1, pc.cls, pc.noP, rfl, t, vs', rfl, SqT.of h2, hl', ?_⟩
      exact flds_ok (names := fl 11) rfl pc.cls h1 pc.noF (show 2 + (fl 11).length < 1000 by decide +kernel) hl'.symm (q _ (sb.trans SameBut.upd) (pap_done (fl := fl) (by decide +kernel) (by decide +kernel) (by decide +kernel) hl'.symm upd_same (by rw [upd_ne (ne_of h2 h1 (by intro z; cases z))]; exact h2) (h3 _)))
  · exact .all fun us hl => match us, hl with | [_, _, _], _ => rfl
theorem sc_Mean : NScope ["self", "top", "bottom", "rows", "before", "again", "after", "partings", "__class__"] ["self", "top", "bottom", "rows", "before", "again", "after", "partings"] ["__class__"] (defScope (inClass (top 51) 0)) := ⟨rfl, rfl, rfl, by decide +kernel, rfl, by decide +kernel, by decide +kernel, by decide +kernel, by decide +kernel⟩
theorem d_Mean (T : Txt w K mg) (S : SubC P K 12 "Mean.__init__" (inClass (top 51) 0)) {n : Nat} (FP : FnR P w K mg base CX0 (n + 3) (He.ma K (ca K 0) "__init__") (spPap K n)) : ClsOk P w K mg base (n + 4) n 12 ["self", "top", "bottom", "rows", "before", "again", "after", "partings"] "mean" := by
  obtain ⟨oc, od, kV, doc, pm, an, ct, osl, cc, cda, lk, hcd, SF⟩ := S.ex
  have pc := T.p 12 (by decide)
  refine ⟨_, fn_supA (F := ⟨"__init__", "Mean.__init__", defArgs (inClass (top 51) 0), defBody (inClass (top 51) 0), defScope (inClass (top 51) 0), [("__class__", cc)], cda⟩) (spB := spPap K n) lk hcd rfl SF sc_Mean rfl (fun vs H Q E h => ?_) rfl rfl (by decide) rfl rfl rfl S.mro S.sup S.ty S.fn FP (Nat.le_refl _) (fun A outer s H E => fun _ _ _ _ _ _ _ h => h.elim) fun A outer s H vs Q E hr h => ?_, ?_⟩
  · obtain ⟨x, dx, us, ds, rfl, hl, _⟩ := h
    show us.length + 1 = 8
    rw [hl]
    rfl
  · refine ⟨_, _, (pa_cons pe_str (pa_cons (pv 1) (pa_cons (pv 2) (pa_cons (pv 3) (pa_cons (pv 4) (pa_cons (pv 5) (pa_cons (pv 6) (pa_cons (pv 7) pa_nil)))))))), PSs.nox (pss_cons (ps_asg (pe_slice sl_tup (pe_fld (pv 0) rfl) po_none (po_some pe_int)) (pg_tup rfl (pgs_cons (pg_fld (pv 0)) (pgs_cons (pg_fld (pv 0)) (pgs_cons (pg_fld (pv 0)) pgs_nil))))) (pss_one (ps_asg (pe_slice sl_tup (pe_fld (pv 0) rfl) (po_some pe_int) po_none) (pg_tup rfl (pgs_cons (pg_fld (pv 0)) (pgs_cons (pg_fld (pv 0)) (pgs_cons (pg_fld (pv 0)) (pgs_cons (pg_fld (pv 0)) pgs_nil)))))))), ?_⟩
    obtain ⟨x, dx, us, ds, rfl, hl, hx, r, ho, hz, hd, q⟩ := h
    match us, hl with
    | [v1, v2, v3, v4, v5, v6, v7], _ =>
      refine ⟨x, dx, [], rfl, hx, _, rfl, _, rfl, _, rfl, _, rfl, _, rfl, _, rfl, _, rfl, spPap_of (c := 12) (by decide) hx r ho hz hd fun H' t vs' sb h1 h2 h3 => ?_⟩
      have hl' : vs'.length = 7 := by rw [(h3 (.lst [])).len, fixS_len, ← r.len]; rfl
      match vs', hl' with
      | [u1, u2, u3, u4, u5, u6, u7], hl' =>
        refine ⟨_, rfl, x, _, dx, _, _, rfl, h1, pc.cls, pc.noP, rfl, _, rfl, t, _, rfl, SqT.of h2, (show ¬ (HT.sIx 7 0 none = 0 ∧ HT.sIx 7 7 (some 3) = 7) by decide), fun p np => ⟨p, [u1, u2, u3], rfl, SqT.of upd_same, rfl, ?_⟩⟩
        have xp : x ≠ p := ne_of_none h1 np
        refine flds_ok (names := ["top", "bottom", "rows"]) (fs := [("word", .str "mean"), ("parts", .ref t)]) rfl pc.cls (by rw [upd_ne xp]; exact h1) (fun f hf => pc.noF f (List.mem_of_mem_take (i := 3) hf)) (show 2 + 3 < 1000 by decide) rfl ?_
        have tx : t ≠ x := ne_of h2 h1 (by intro z; cases z)
        refine ⟨_, rfl, x, _, dx, _, _, rfl, upd_same, pc.cls, pc.noP, rfl, _, rfl, t, [u1, u2, u3, u4, u5, u6, u7], rfl, SqT.of (by rw [upd_ne tx, upd_ne (ne_of_none h2 np)]; exact h2), (show ¬ (HT.sIx 7 0 (some 3) = 0 ∧ HT.sIx 7 7 none = 7) by decide), fun p2 np2 => ⟨p2, [u4, u5, u6, u7], rfl, SqT.of upd_same, rfl, ?_⟩⟩
        have xp2 : x ≠ p2 := ne_of_none upd_same np2
        refine flds_ok (names := ["before", "again", "after", "partings"]) (fs := putAll ["top", "bottom", "rows"] [u1, u2, u3] [("word", .str "mean"), ("parts", .ref t)]) rfl pc.cls (by rw [upd_ne xp2]; exact upd_same) (fun f hf => pc.noF f (List.mem_of_mem_drop (i := 3) hf)) (show 5 + 4 < 1000 by decide) rfl ?_
        refine q _ (fun e u he hu => (two_step (x := x) np np2) e u (by rw [upd_ne he]; exact sb e u he hu)) (pap_done (vs := [u1, u2, u3, u4, u5, u6, u7]) (t := t) (fl := fl) (by decide +kernel) (by decide +kernel) (by decide +kernel) rfl upd_same (two_step np np2 _ _ (by rw [upd_ne tx]; exact h2)) ((h3 _).mono (two_step np np2)))
  · exact .all fun us hl => match us, hl with | [_, _, _, _, _, _, _, _], _ => rfl
theorem sc_Played : NScope ["self", "laid", "picks", "place", "end", "__class__"] ["self", "laid", "picks", "place", "end"] ["__class__"] (defScope (inClass (top 56) 0)) := ⟨rfl, rfl, rfl, by decide +kernel, rfl, by decide +kernel, by decide +kernel, by decide +kernel, by decide +kernel⟩
theorem d_Played (T : Txt w K mg) (S : SubC P K 13 "Played.__init__" (inClass (top 56) 0)) {n : Nat} (FP : FnR P w K mg base CX0 (n + 3) (He.ma K (ca K 0) "__init__") (spPap K n)) : ClsOk P w K mg base (n + 4) n 13 ["self", "laid", "picks", "place", "end"] "played" := by
  obtain ⟨oc, od, kV, doc, pm, an, ct, osl, cc, cda, lk, hcd, SF⟩ := S.ex
  have pc := T.p 13 (by decide)
  refine ⟨_, fn_supA (F := ⟨"__init__", "Played.__init__", defArgs (inClass (top 56) 0), defBody (inClass (top 56) 0), defScope (inClass (top 56) 0), [("__class__", cc)], cda⟩) (spB := spPap K n) lk hcd rfl SF sc_Played rfl (fun vs H Q E h => ?_) rfl rfl (by decide) rfl rfl rfl S.mro S.sup S.ty S.fn FP (Nat.le_refl _) (fun A outer s H E => fun _ _ _ _ _ _ _ h => h.elim) fun A outer s H vs Q E hr h => ?_, ?_⟩
  · obtain ⟨x, dx, us, ds, rfl, hl, _⟩ := h
    show us.length + 1 = 5
    rw [hl]
    rfl
  · refine ⟨_, _, (pa_cons pe_str (pa_cons (pv 1) (pa_cons (pv 2) (pa_cons (pv 3) (pa_cons (pv 4) pa_nil))))), PSs.nox (pss_one (ps_asg (pe_fld (pv 0) rfl) (pg_tup rfl (pgs_cons (pg_fld (pv 0)) (pgs_cons (pg_fld (pv 0)) (pgs_cons (pg_fld (pv 0)) (pgs_cons (pg_fld (pv 0)) pgs_nil))))))), ?_⟩
    obtain ⟨x, dx, us, ds, rfl, hl, hx, r, ho, hz, hd, q⟩ := h
    match us, hl with
    | [v1, v2, v3, v4], _ =>
      refine ⟨x, dx, [], rfl, hx, _, rfl, _, rfl, _, rfl, _, rfl, spPap_of (c := 13) (by decide) hx r ho hz hd fun H' t vs' sb h1 h2 h3 => ?_⟩
      have hl' : vs'.length = 4 := by rw [(h3 (.lst [])).len, fixS_len, ← r.len]; rfl
      refine ⟨_, rfl, x, _, dx, _, _, rfl, h1, pc.cls, pc.noP, rfl, t, vs', rfl, SqT.of h2, hl', ?_⟩
      exact flds_ok (names := fl 13) rfl pc.cls h1 pc.noF (show 2 + (fl 13).length < 1000 by decide +kernel) hl'.symm (q _ (sb.trans SameBut.upd) (pap_done (fl := fl) (by decide +kernel) (by decide +kernel) (by decide +kernel) hl'.symm upd_same (by rw [upd_ne (ne_of h2 h1 (by intro z; cases z))]; exact h2) (h3 _)))
  · exact .all fun us hl => match us, hl with | [_, _, _, _, _], _ => rfl
theorem sc_Repeated : NScope ["self", "first", "period", "step", "lacks", "window", "steps", "__class__"] ["self", "first", "period", "step", "lacks", "window", "steps"] ["__class__"] (defScope (inClass (top 58) 0)) := ⟨rfl, rfl, rfl, by decide +kernel, rfl, by decide +kernel, by decide +kernel, by decide +kernel, by decide +kernel⟩
theorem d_Repeated (T : Txt w K mg) (S : SubC P K 14 "Repeated.__init__" (inClass (top 58) 0)) {n : Nat} (FP : FnR P w K mg base CX0 (n + 3) (He.ma K (ca K 0) "__init__") (spPap K n)) : ClsOk P w K mg base (n + 4) n 14 ["self", "first", "period", "step", "lacks", "window", "steps"] "repeated" := by
  obtain ⟨oc, od, kV, doc, pm, an, ct, osl, cc, cda, lk, hcd, SF⟩ := S.ex
  have pc := T.p 14 (by decide)
  refine ⟨_, fn_supA (F := ⟨"__init__", "Repeated.__init__", defArgs (inClass (top 58) 0), defBody (inClass (top 58) 0), defScope (inClass (top 58) 0), [("__class__", cc)], cda⟩) (spB := spPap K n) lk hcd rfl SF sc_Repeated rfl (fun vs H Q E h => ?_) rfl rfl (by decide) rfl rfl rfl S.mro S.sup S.ty S.fn FP (Nat.le_refl _) (fun A outer s H E => fun _ _ _ _ _ _ _ h => h.elim) fun A outer s H vs Q E hr h => ?_, ?_⟩
  · obtain ⟨x, dx, us, ds, rfl, hl, _⟩ := h
    show us.length + 1 = 7
    rw [hl]
    rfl
  · refine ⟨_, _, (pa_cons pe_str (pa_cons (pv 1) (pa_cons (pv 2) (pa_cons (pv 3) (pa_cons (pv 4) (pa_cons (pv 5) (pa_cons (pv 6) pa_nil))))))), PSs.nox (pss_cons (ps_asg (pe_slice sl_tup (pe_fld (pv 0) rfl) po_none (po_some pe_int)) (pg_tup rfl (pgs_cons (pg_fld (pv 0)) (pgs_cons (pg_fld (pv 0)) (pgs_cons (pg_fld (pv 0)) pgs_nil))))) (pss_one (ps_asg (pe_slice sl_tup (pe_fld (pv 0) rfl) (po_some pe_int) po_none) (pg_tup rfl (pgs_cons (pg_fld (pv 0)) (pgs_cons (pg_fld (pv 0)) (pgs_cons (pg_fld (pv 0)) pgs_nil))))))), ?_⟩
    obtain ⟨x, dx, us, ds, rfl, hl, hx, r, ho, hz, hd, q⟩ := h
    match us, hl with
    | [v1, v2, v3, v4, v5, v6], _ =>
      refine ⟨x, dx, [], rfl, hx, _, rfl, _, rfl, _, rfl, _, rfl, _, rfl, _, rfl, spPap_of (c := 14) (by decide) hx r ho hz hd fun H' t vs' sb h1 h2 h3 => ?_⟩
      have hl' : vs'.length = 6 := by rw [(h3 (.lst [])).len, fixS_len, ← r.len]; rfl
      match vs', hl' with
      | [u1, u2, u3, u4, u5, u6], hl' =>
        refine ⟨_, rfl, x, _, dx, _, _, rfl, h1, pc.cls, pc.noP, rfl, _, rfl, t, _, rfl, SqT.of h2, (show ¬ (HT.sIx 6 0 none = 0 ∧ HT.sIx 6 6 (some 3) = 6) by decide), fun p np => ⟨p, [u1, u2, u3], rfl, SqT.of upd_same, rfl, ?_⟩⟩
        have xp : x ≠ p := ne_of_none h1 np
        refine flds_ok (names := ["first", "period", "step"]) (fs := [("word", .str "repeated"), ("parts", .ref t)]) rfl pc.cls (by rw [upd_ne xp]; exact h1) (fun f hf => pc.noF f (List.mem_of_mem_take (i := 3) hf)) (show 2 + 3 < 1000 by decide) rfl ?_
        have tx : t ≠ x := ne_of h2 h1 (by intro z; cases z)
        refine ⟨_, rfl, x, _, dx, _, _, rfl, upd_same, pc.cls, pc.noP, rfl, _, rfl, t, [u1, u2, u3, u4, u5, u6], rfl, SqT.of (by rw [upd_ne tx, upd_ne (ne_of_none h2 np)]; exact h2), (show ¬ (HT.sIx 6 0 (some 3) = 0 ∧ HT.sIx 6 6 none = 6) by decide), fun p2 np2 => ⟨p2, [u4, u5, u6], rfl, SqT.of upd_same, rfl, ?_⟩⟩
        have xp2 : x ≠ p2 := ne_of_none upd_same np2
        refine flds_ok (names := ["lacks", "window", "steps"]) (fs := putAll ["first", "period", "step"] [u1, u2, u3] [("word", .str "repeated"), ("parts", .ref t)]) rfl pc.cls (by rw [upd_ne xp2]; exact upd_same) (fun f hf => pc.noF f (List.mem_of_mem_drop (i := 3) hf)) (show 5 + 3 < 1000 by decide) rfl ?_
        refine q _ (fun e u he hu => (two_step (x := x) np np2) e u (by rw [upd_ne he]; exact sb e u he hu)) (pap_done (vs := [u1, u2, u3, u4, u5, u6]) (t := t) (fl := fl) (by decide +kernel) (by decide +kernel) (by decide +kernel) rfl upd_same (two_step np np2 _ _ (by rw [upd_ne tx]; exact h2)) ((h3 _).mono (two_step np np2)))
  · exact .all fun us hl => match us, hl with | [_, _, _, _, _, _, _], _ => rfl
theorem sc_Safe : NScope ["self", "rows", "__class__"] ["self", "rows"] ["__class__"] (defScope (inClass (top 53) 0)) := ⟨rfl, rfl, rfl, by decide +kernel, rfl, by decide +kernel, by decide +kernel, by decide +kernel, by decide +kernel⟩
theorem d_Safe (T : Txt w K mg) (S : SubC P K 15 "Safe.__init__" (inClass (top 53) 0)) {n : Nat} (FP : FnR P w K mg base CX0 (n + 3) (He.ma K (ca K 0) "__init__") (spPap K n)) : ClsOk P w K mg base (n + 4) n 15 ["self", "rows"] "safe" := by
  obtain ⟨oc, od, kV, doc, pm, an, ct, osl, cc, cda, lk, hcd, SF⟩ := S.ex
  have pc := T.p 15 (by decide)
  refine ⟨_, fn_supA (F := ⟨"__init__", "Safe.__init__", defArgs (inClass (top 53) 0), defBody (inClass (top 53) 0), defScope (inClass (top 53) 0), [("__class__", cc)], cda⟩) (spB := spPap K n) lk hcd rfl SF sc_Safe rfl (fun vs H Q E h => ?_) rfl rfl (by decide) rfl rfl rfl S.mro S.sup S.ty S.fn FP (Nat.le_refl _) (fun A outer s H E => fun _ _ _ _ _ _ _ h => h.elim) fun A outer s H vs Q E hr h => ?_, ?_⟩
  · obtain ⟨x, dx, us, ds, rfl, hl, _⟩ := h
    show us.length + 1 = 2
    rw [hl]
    rfl
  · refine ⟨_, _, (pa_cons pe_str (pa_cons (pv 1) pa_nil)), PSs.nox (pss_one (ps_fld (pv 0) (pe_ix ix_tup (pe_fld (pv 0) rfl) pe_int (fun _ _ => rfl)) rfl)), ?_⟩
    obtain ⟨x, dx, us, ds, rfl, hl, hx, r, ho, hz, hd, q⟩ := h
    match us, hl with
    | [v1], _ =>
      refine ⟨x, dx, [], rfl, hx, _, rfl, spPap_of (c := 15) (by decide) hx r ho hz hd fun H' t vs' sb h1 h2 h3 => ?_⟩
      have hl' : vs'.length = 1 := by rw [(h3 (.lst [])).len, fixS_len, ← r.len]; rfl
      match vs', hl' with
      | [u1], hl' =>
        refine ⟨_, rfl, x, _, dx, _, _, rfl, h1, pc.cls, pc.noP, rfl, t, [u1], _, u1, rfl, rfl, SqT.of h2, rfl, _, rfl, x, _, dx, _, rfl, h1, pc.cls, pc.noF _ (by decide +kernel), (show 2 < 1000 by decide), ?_⟩
        exact q _ (sb.trans SameBut.upd) (pap_done (vs := [u1]) (fl := fl) (by decide +kernel) (by decide +kernel) (by decide +kernel) rfl upd_same (by rw [upd_ne (ne_of h2 h1 (by intro z; cases z))]; exact h2) (h3 _))
  · exact .all fun us hl => match us, hl with | [_, _], _ => rfl
theorem sc_Same : NScope ["self", "rows", "__class__"] ["self", "rows"] ["__class__"] (defScope (inClass (top 60) 0)) := ⟨rfl, rfl, rfl, by decide +kernel, rfl, by decide +kernel, by decide +kernel, by decide +kernel, by decide +kernel⟩
theorem d_Same (T : Txt w K mg) (S : SubC P K 16 "Same.__init__" (inClass (top 60) 0)) {n : Nat} (FP : FnR P w K mg base CX0 (n + 3) (He.ma K (ca K 0) "__init__") (spPap K n)) : ClsOk P w K mg base (n + 4) n 16 ["self", "rows"] "same" := by
  obtain ⟨oc, od, kV, doc, pm, an, ct, osl, cc, cda, lk, hcd, SF⟩ := S.ex
  have pc := T.p 16 (by decide)
  refine ⟨_, fn_supA (F := ⟨"__init__", "Same.__init__", defArgs (inClass (top 60) 0), defBody (inClass (top 60) 0), defScope (inClass (top 60) 0), [("__class__", cc)], cda⟩) (spB := spPap K n) lk hcd rfl SF sc_Same rfl (fun vs H Q E h => ?_) rfl rfl (by decide) rfl rfl rfl S.mro S.sup S.ty S.fn FP (Nat.le_refl _) (fun A outer s H E => fun _ _ _ _ _ _ _ h => h.elim) fun A outer s H vs Q E hr h => ?_, ?_⟩
  · obtain ⟨x, dx, us, ds, rfl, hl, _⟩ := h
    show us.length + 1 = 2
    rw [hl]
    rfl
  · refine ⟨_, _, (pa_cons pe_str (pa_cons (pv 1) pa_nil)), PSs.nox (pss_one (ps_fld (pv 0) (pe_ix ix_tup (pe_fld (pv 0) rfl) pe_int (fun _ _ => rfl)) rfl)), ?_⟩
    obtain ⟨x, dx, us, ds, rfl, hl, hx, r, ho, hz, hd, q⟩ := h
    match us, hl with
    | [v1], _ =>
      refine ⟨x, dx, [], rfl, hx, _, rfl, spPap_of (c := 16) (by decide) hx r ho hz hd fun H' t vs' sb h1 h2 h3 => ?_⟩
      have hl' : vs'.length = 1 := by rw [(h3 (.lst [])).len, fixS_len, ← r.len]; rfl
      match vs', hl' with
      | [u1], hl' =>
        refine ⟨_, rfl, x, _, dx, _, _, rfl, h1, pc.cls, pc.noP, rfl, t, [u1], _, u1, rfl, rfl, SqT.of h2, rfl, _, rfl, x, _, dx, _, rfl, h1, pc.cls, pc.noF _ (by decide +kernel), (show 2 < 1000 by decide), ?_⟩
        exact q _ (sb.trans SameBut.upd) (pap_done (vs := [u1]) (fl := fl) (by decide +kernel) (by decide +kernel) (by decide +kernel) rfl upd_same (by rw [upd_ne (ne_of h2 h1 (by intro z; cases z))]; exact h2) (h3 _))
  · exact .all fun us hl => match us, hl with | [_, _], _ => rfl
theorem sc_Series : NScope ["self", "top", "bottom", "__class__"] ["self", "top", "bottom"] ["__class__"] (defScope (inClass (top 63) 0)) := ⟨rfl, rfl, rfl, by decide +kernel, rfl, by decide +kernel, by decide +kernel, by decide +kernel, by decide +kernel⟩
theorem d_Series (T : Txt w K mg) (S : SubC P K 17 "Series.__init__" (inClass (top 63) 0)) {n : Nat} (FP : FnR P w K mg base CX0 (n + 3) (He.ma K (ca K 0) "__init__") (spPap K n)) : ClsOk P w K mg base (n + 4) n 17 ["self", "top", "bottom"] "series" := by
  obtain ⟨oc, od, kV, doc, pm, an, ct, osl, cc, cda, lk, hcd, SF⟩ := S.ex
  have pc := T.p 17 (by decide)
  refine ⟨_, fn_supA (F := ⟨"__init__", "Series.__init__", defArgs (inClass (top 63) 0), defBody (inClass (top 63) 0), defScope (inClass (top 63) 0), [("__class__", cc)], cda⟩) (spB := spPap K n) lk hcd rfl SF sc_Series rfl (fun vs H Q E h => ?_) rfl rfl (by decide) rfl rfl rfl S.mro S.sup S.ty S.fn FP (Nat.le_refl _) (fun A outer s H E => fun _ _ _ _ _ _ _ h => h.elim) fun A outer s H vs Q E hr h => ?_, ?_⟩
  · obtain ⟨x, dx, us, ds, rfl, hl, _⟩ := h
    show us.length + 1 = 3
    rw [hl]
    rfl
  · refine ⟨_, _, (pa_cons pe_str (pa_cons (pv 1) (pa_cons (pv 2) pa_nil))), PSs.nox (pss_one (ps_asg (pe_fld (pv 0) rfl) (pg_tup rfl (pgs_cons (pg_fld (pv 0)) (pgs_cons (pg_fld (pv 0)) pgs_nil))))), ?_⟩
    obtain ⟨x, dx, us, ds, rfl, hl, hx, r, ho, hz, hd, q⟩ := h
    match us, hl with
    | [v1, v2], _ =>
      refine ⟨x, dx, [], rfl, hx, _, rfl, _, rfl, spPap_of (c := 17) (by decide) hx r ho hz hd fun H' t vs' sb h1 h2 h3 => ?_⟩
      have hl' : vs'.length = 2 := by rw [(h3 (.lst [])).len, fixS_len, ← r.len]; rfl
      refine ⟨_, rfl, x, _, dx, _, _, rfl, h1, pc.cls, pc.noP, rfl, t, vs', rfl, SqT.of h2, hl', ?_⟩
      exact flds_ok (names := fl 17) rfl pc.cls h1 pc.noF (show 2 + (fl 17).length < 1000 by decide +kernel) hl'.symm (q _ (sb.trans SameBut.upd) (pap_done (fl := fl) (by decide +kernel) (by decide +kernel) (by decide +kernel) hl'.symm upd_same (by rw [upd_ne (ne_of h2 h1 (by intro z; cases z))]; exact h2) (h3 _)))
  · exact .all fun us hl => match us, hl with | [_, _, _], _ => rfl
theorem sc_Short : NScope ["self", "groups", "__class__"] ["self", "groups"] ["__class__"] (defScope (inClass (top 39) 0)) := ⟨rfl, rfl, rfl, by decide +kernel, rfl, by decide +kernel, by decide +kernel, by decide +kernel, by decide +kernel⟩
theorem d_Short (T : Txt w K mg) (S : SubC P K 18 "Short.__init__" (inClass (top 39) 0)) {n : Nat} (FP : FnR P w K mg base CX0 (n + 3) (He.ma K (ca K 0) "__init__") (spPap K n)) : ClsOk P w K mg base (n + 4) n 18 ["self", "groups"] "short" := by
  obtain ⟨oc, od, kV, doc, pm, an, ct, osl, cc, cda, lk, hcd, SF⟩ := S.ex
  have pc := T.p 18 (by decide)
  refine ⟨_, fn_supA (F := ⟨"__init__", "Short.__init__", defArgs (inClass (top 39) 0), defBody (inClass (top 39) 0), defScope (inClass (top 39) 0), [("__class__", cc)], cda⟩) (spB := spPap K n) lk hcd rfl SF sc_Short rfl (fun vs H Q E h => ?_) rfl rfl (by decide) rfl rfl rfl S.mro S.sup S.ty S.fn FP (Nat.le_refl _) (fun A outer s H E => fun _ _ _ _ _ _ _ h => h.elim) fun A outer s H vs Q E hr h => ?_, ?_⟩
  · obtain ⟨x, dx, us, ds, rfl, hl, _⟩ := h
    show us.length + 1 = 2
    rw [hl]
    rfl
  · refine ⟨_, _, (pa_cons pe_str (pa_cons (pv 1) pa_nil)), PSs.nox (pss_one (ps_asg (pe_fld (pv 0) rfl) (pg_tup rfl (pgs_cons (pg_fld (pv 0)) pgs_nil)))), ?_⟩
    obtain ⟨x, dx, us, ds, rfl, hl, hx, r, ho, hz, hd, q⟩ := h
    match us, hl with
    | [v1], _ =>
      refine ⟨x, dx, [], rfl, hx, _, rfl, spPap_of (c := 18) (by decide) hx r ho hz hd fun H' t vs' sb h1 h2 h3 => ?_⟩
      have hl' : vs'.length = 1 := by rw [(h3 (.lst [])).len, fixS_len, ← r.len]; rfl
      refine ⟨_, rfl, x, _, dx, _, _, rfl, h1, pc.cls, pc.noP, rfl, t, vs', rfl, SqT.of h2, hl', ?_⟩
      exact flds_ok (names := fl 18) rfl pc.cls h1 pc.noF (show 2 + (fl 18).length < 1000 by decide +kernel) hl'.symm (q _ (sb.trans SameBut.upd) (pap_done (fl := fl) (by decide +kernel) (by decide +kernel) (by decide +kernel) hl'.symm upd_same (by rw [upd_ne (ne_of h2 h1 (by intro z; cases z))]; exact h2) (h3 _)))
  · exact .all fun us hl => match us, hl with | [_, _], _ => rfl
theorem sc_Stands : NScope ["self", "rows", "__class__"] ["self", "rows"] ["__class__"] (defScope (inClass (top 41) 0)) := ⟨rfl, rfl, rfl, by decide +kernel, rfl, by decide +kernel, by decide +kernel, by decide +kernel, by decide +kernel⟩
theorem d_Stands (T : Txt w K mg) (S : SubC P K 19 "Stands.__init__" (inClass (top 41) 0)) {n : Nat} (FP : FnR P w K mg base CX0 (n + 3) (He.ma K (ca K 0) "__init__") (spPap K n)) : ClsOk P w K mg base (n + 4) n 19 ["self", "rows"] "stands" := by
  obtain ⟨oc, od, kV, doc, pm, an, ct, osl, cc, cda, lk, hcd, SF⟩ := S.ex
  have pc := T.p 19 (by decide)
  refine ⟨_, fn_supA (F := ⟨"__init__", "Stands.__init__", defArgs (inClass (top 41) 0), defBody (inClass (top 41) 0), defScope (inClass (top 41) 0), [("__class__", cc)], cda⟩) (spB := spPap K n) lk hcd rfl SF sc_Stands rfl (fun vs H Q E h => ?_) rfl rfl (by decide) rfl rfl rfl S.mro S.sup S.ty S.fn FP (Nat.le_refl _) (fun A outer s H E => fun _ _ _ _ _ _ _ h => h.elim) fun A outer s H vs Q E hr h => ?_, ?_⟩
  · obtain ⟨x, dx, us, ds, rfl, hl, _⟩ := h
    show us.length + 1 = 2
    rw [hl]
    rfl
  · refine ⟨_, _, (pa_cons pe_str (pa_cons (pv 1) pa_nil)), PSs.nox (pss_one (ps_asg (pe_fld (pv 0) rfl) (pg_tup rfl (pgs_cons (pg_fld (pv 0)) pgs_nil)))), ?_⟩
    obtain ⟨x, dx, us, ds, rfl, hl, hx, r, ho, hz, hd, q⟩ := h
    match us, hl with
    | [v1], _ =>
      refine ⟨x, dx, [], rfl, hx, _, rfl, spPap_of (c := 19) (by decide) hx r ho hz hd fun H' t vs' sb h1 h2 h3 => ?_⟩
      have hl' : vs'.length = 1 := by rw [(h3 (.lst [])).len, fixS_len, ← r.len]; rfl
      refine ⟨_, rfl, x, _, dx, _, _, rfl, h1, pc.cls, pc.noP, rfl, t, vs', rfl, SqT.of h2, hl', ?_⟩
      exact flds_ok (names := fl 19) rfl pc.cls h1 pc.noF (show 2 + (fl 19).length < 1000 by decide +kernel) hl'.symm (q _ (sb.trans SameBut.upd) (pap_done (fl := fl) (by decide +kernel) (by decide +kernel) (by decide +kernel) hl'.symm upd_same (by rw [upd_ne (ne_of h2 h1 (by intro z; cases z))]; exact h2) (h3 _)))
  · exact .all fun us hl => match us, hl with | [_, _], _ => rfl
theorem sc_Sure : NScope ["self", "rows", "__class__"] ["self", "rows"] ["__class__"] (defScope (inClass (top 46) 0)) := ⟨rfl, rfl, rfl, by decide +kernel, rfl, by decide +kernel, by decide +kernel, by decide +kernel, by decide +kernel⟩
theorem d_Sure (T : Txt w K mg) (S : SubC P K 20 "Sure.__init__" (inClass (top 46) 0)) {n : Nat} (FP : FnR P w K mg base CX0 (n + 3) (He.ma K (ca K 0) "__init__") (spPap K n)) : ClsOk P w K mg base (n + 4) n 20 ["self", "rows"] "sure" := by
  obtain ⟨oc, od, kV, doc, pm, an, ct, osl, cc, cda, lk, hcd, SF⟩ := S.ex
  have pc := T.p 20 (by decide)
  refine ⟨_, fn_supA (F := ⟨"__init__", "Sure.__init__", defArgs (inClass (top 46) 0), defBody (inClass (top 46) 0), defScope (inClass (top 46) 0), [("__class__", cc)], cda⟩) (spB := spPap K n) lk hcd rfl SF sc_Sure rfl (fun vs H Q E h => ?_) rfl rfl (by decide) rfl rfl rfl S.mro S.sup S.ty S.fn FP (Nat.le_refl _) (fun A outer s H E => fun _ _ _ _ _ _ _ h => h.elim) fun A outer s H vs Q E hr h => ?_, ?_⟩
  · obtain ⟨x, dx, us, ds, rfl, hl, _⟩ := h
    show us.length + 1 = 2
    rw [hl]
    rfl
  · refine ⟨_, _, (pa_cons pe_str (pa_cons (pv 1) pa_nil)), PSs.nox (pss_one (ps_fld (pv 0) (pe_ix ix_tup (pe_fld (pv 0) rfl) pe_int (fun _ _ => rfl)) rfl)), ?_⟩
    obtain ⟨x, dx, us, ds, rfl, hl, hx, r, ho, hz, hd, q⟩ := h
    match us, hl with
    | [v1], _ =>
      refine ⟨x, dx, [], rfl, hx, _, rfl, spPap_of (c := 20) (by decide) hx r ho hz hd fun H' t vs' sb h1 h2 h3 => ?_⟩
      have hl' : vs'.length = 1 := by rw [(h3 (.lst [])).len, fixS_len, ← r.len]; rfl
      match vs', hl' with
      | [u1], hl' =>
        refine ⟨_, rfl, x, _, dx, _, _, rfl, h1, pc.cls, pc.noP, rfl, t, [u1], _, u1, rfl, rfl, SqT.of h2, rfl, _, rfl, x, _, dx, _, rfl, h1, pc.cls, pc.noF _ (by decide +kernel), (show 2 < 1000 by decide), ?_⟩
        exact q _ (sb.trans SameBut.upd) (pap_done (vs := [u1]) (fl := fl) (by decide +kernel) (by decide +kernel) (by decide +kernel) rfl upd_same (by rw [upd_ne (ne_of h2 h1 (by intro z; cases z))]; exact h2) (h3 _))
  · exact .all fun us hl => match us, hl with | [_, _], _ => rfl
theorem sc_Unlike : NScope ["self", "told", "__class__"] ["self", "told"] ["__class__"] (defScope (inClass (top 61) 0)) := ⟨rfl, rfl, rfl, by decide +kernel, rfl, by decide +kernel, by decide +kernel, by decide +kernel, by decide +kernel⟩
theorem d_Unlike (T : Txt w K mg) (S : SubC P K 21 "Unlike.__init__" (inClass (top 61) 0)) {n : Nat} (FP : FnR P w K mg base CX0 (n + 3) (He.ma K (ca K 0) "__init__") (spPap K n)) : ClsOk P w K mg base (n + 4) n 21 ["self", "told"] "unlike" := by
  obtain ⟨oc, od, kV, doc, pm, an, ct, osl, cc, cda, lk, hcd, SF⟩ := S.ex
  have pc := T.p 21 (by decide)
  refine ⟨_, fn_supA (F := ⟨"__init__", "Unlike.__init__", defArgs (inClass (top 61) 0), defBody (inClass (top 61) 0), defScope (inClass (top 61) 0), [("__class__", cc)], cda⟩) (spB := spPap K n) lk hcd rfl SF sc_Unlike rfl (fun vs H Q E h => ?_) rfl rfl (by decide) rfl rfl rfl S.mro S.sup S.ty S.fn FP (Nat.le_refl _) (fun A outer s H E => fun _ _ _ _ _ _ _ h => h.elim) fun A outer s H vs Q E hr h => ?_, ?_⟩
  · obtain ⟨x, dx, us, ds, rfl, hl, _⟩ := h
    show us.length + 1 = 2
    rw [hl]
    rfl
  · refine ⟨_, _, (pa_cons pe_str (pa_cons (pv 1) pa_nil)), PSs.nox (pss_one (ps_fld (pv 0) (pe_ix ix_tup (pe_fld (pv 0) rfl) pe_int (fun _ _ => rfl)) rfl)), ?_⟩
    obtain ⟨x, dx, us, ds, rfl, hl, hx, r, ho, hz, hd, q⟩ := h
    match us, hl with
    | [v1], _ =>
      refine ⟨x, dx, [], rfl, hx, _, rfl, spPap_of (c := 21) (by decide) hx r ho hz hd fun H' t vs' sb h1 h2 h3 => ?_⟩
      have hl' : vs'.length = 1 := by rw [(h3 (.lst [])).len, fixS_len, ← r.len]; rfl
      match vs', hl' with
      | [u1], hl' =>
        refine ⟨_, rfl, x, _, dx, _, _, rfl, h1, pc.cls, pc.noP, rfl, t, [u1], _, u1, rfl, rfl, SqT.of h2, rfl, _, rfl, x, _, dx, _, rfl, h1, pc.cls, pc.noF _ (by decide +kernel), (show 2 < 1000 by decide), ?_⟩
        exact q _ (sb.trans SameBut.upd) (pap_done (vs := [u1]) (fl := fl) (by decide +kernel) (by decide +kernel) (by decide +kernel) rfl upd_same (by rw [upd_ne (ne_of h2 h1 (by intro z; cases z))]; exact h2) (h3 _))
  · exact .all fun us hl => match us, hl with | [_, _], _ => rfl
theorem sc_Unsure : NScope ["self", "rows", "__class__"] ["self", "rows"] ["__class__"] (defScope (inClass (top 47) 0)) := ⟨rfl, rfl, rfl, by decide +kernel, rfl, by decide +kernel, by decide +kernel, by decide +kernel, by decide +kernel⟩
theorem d_Unsure (T : Txt w K mg) (S : SubC P K 22 "Unsure.__init__" (inClass (top 47) 0)) {n : Nat} (FP : FnR P w K mg base CX0 (n + 3) (He.ma K (ca K 0) "__init__") (spPap K n)) : ClsOk P w K mg base (n + 4) n 22 ["self", "rows"] "unsure" := by
  obtain ⟨oc, od, kV, doc, pm, an, ct, osl, cc, cda, lk, hcd, SF⟩ := S.ex
  have pc := T.p 22 (by decide)
  refine ⟨_, fn_supA (F := ⟨"__init__", "Unsure.__init__", defArgs (inClass (top 47) 0), defBody (inClass (top 47) 0), defScope (inClass (top 47) 0), [("__class__", cc)], cda⟩) (spB := spPap K n) lk hcd rfl SF sc_Unsure rfl (fun vs H Q E h => ?_) rfl rfl (by decide) rfl rfl rfl S.mro S.sup S.ty S.fn FP (Nat.le_refl _) (fun A outer s H E => fun _ _ _ _ _ _ _ h => h.elim) fun A outer s H vs Q E hr h => ?_, ?_⟩
  · obtain ⟨x, dx, us, ds, rfl, hl, _⟩ := h
    show us.length + 1 = 2
    rw [hl]
    rfl
  · refine ⟨_, _, (pa_cons pe_str (pa_cons (pv 1) pa_nil)), PSs.nox (pss_one (ps_fld (pv 0) (pe_ix ix_tup (pe_fld (pv 0) rfl) pe_int (fun _ _ => rfl)) rfl)), ?_⟩
    obtain ⟨x, dx, us, ds, rfl, hl, hx, r, ho, hz, hd, q⟩ := h
    match us, hl with
    | [v1], _ =>
      refine ⟨x, dx, [], rfl, hx, _, rfl, spPap_of (c := 22) (by decide) hx r ho hz hd fun H' t vs' sb h1 h2 h3 => ?_⟩
      have hl' : vs'.length = 1 := by rw [(h3 (.lst [])).len, fixS_len, ← r.len]; rfl
      match vs', hl' with
      | [u1], hl' =>
        refine ⟨_, rfl, x, _, dx, _, _, rfl, h1, pc.cls, pc.noP, rfl, t, [u1], _, u1, rfl, rfl, SqT.of h2, rfl, _, rfl, x, _, dx, _, rfl, h1, pc.cls, pc.noF _ (by decide +kernel), (show 2 < 1000 by decide), ?_⟩
        exact q _ (sb.trans SameBut.upd) (pap_done (vs := [u1]) (fl := fl) (by decide +kernel) (by decide +kernel) (by decide +kernel) rfl upd_same (by rw [upd_ne (ne_of h2 h1 (by intro z; cases z))]; exact h2) (h3 _))
  · exact .all fun us hl => match us, hl with | [_, _], _ => rfl
theorem sc_Worth : NScope ["self", "price", "rows", "others", "__class__"] ["self", "price", "rows", "others"] ["__class__"] (defScope (inClass (top 65) 0)) := ⟨rfl, rfl, rfl, by decide +kernel, rfl, by decide +kernel, by decide +kernel, by decide +kernel, by decide +kernel⟩
theorem d_Worth (T : Txt w K mg) (S : SubC P K 23 "Worth.__init__" (inClass (top 65) 0)) {n : Nat} (FP : FnR P w K mg base CX0 (n + 3) (He.ma K (ca K 0) "__init__") (spPap K n)) : ClsOk P w K mg base (n + 4) n 23 ["self", "price", "rows", "others"] "worth" := by
  obtain ⟨oc, od, kV, doc, pm, an, ct, osl, cc, cda, lk, hcd, SF⟩ := S.ex
  have pc := T.p 23 (by decide)
  refine ⟨_, fn_supA (F := ⟨"__init__", "Worth.__init__", defArgs (inClass (top 65) 0), defBody (inClass (top 65) 0), defScope (inClass (top 65) 0), [("__class__", cc)], cda⟩) (spB := spPap K n) lk hcd rfl SF sc_Worth rfl (fun vs H Q E h => ?_) rfl rfl (by decide) rfl rfl rfl S.mro S.sup S.ty S.fn FP (Nat.le_refl _) (fun A outer s H E => fun _ _ _ _ _ _ _ h => h.elim) fun A outer s H vs Q E hr h => ?_, ?_⟩
  · obtain ⟨x, dx, us, ds, rfl, hl, _⟩ := h
    show us.length + 1 = 4
    rw [hl]
    rfl
  · refine ⟨_, _, (pa_cons pe_str (pa_cons (pv 1) (pa_cons (pv 2) (pa_cons (pv 3) pa_nil)))), PSs.nox (pss_one (ps_asg (pe_fld (pv 0) rfl) (pg_tup rfl (pgs_cons (pg_fld (pv 0)) (pgs_cons (pg_fld (pv 0)) (pgs_cons (pg_fld (pv 0)) pgs_nil)))))), ?_⟩
    obtain ⟨x, dx, us, ds, rfl, hl, hx, r, ho, hz, hd, q⟩ := h
    match us, hl with
    | [v1, v2, v3], _ =>
      refine ⟨x, dx, [], rfl, hx, _, rfl, _, rfl, _, rfl, spPap_of (c := 23) (by decide) hx r ho hz hd fun H' t vs' sb h1 h2 h3 => ?_⟩
      have hl' : vs'.length = 3 := by rw [(h3 (.lst [])).len, fixS_len, ← r.len]; rfl
      refine ⟨_, rfl, x, _, dx, _, _, rfl, h1, pc.cls, pc.noP, rfl, t, vs', rfl, SqT.of h2, hl', ?_⟩
      exact flds_ok (names := fl 23) rfl pc.cls h1 pc.noF (show 2 + (fl 23).length < 1000 by decide +kernel) hl'.symm (q _ (sb.trans SameBut.upd) (pap_done (fl := fl) (by decide +kernel) (by decide +kernel) (by decide +kernel) hl'.symm upd_same (by rw [upd_ne (ne_of h2 h1 (by intro z; cases z))]; exact h2) (h3 _)))
  · exact .all fun us hl => match us, hl with | [_, _, _, _], _ => rfl
end
end K6
end
section -- KOf
set_option maxHeartbeats 4000000
/-! of_towers, of_games, of_heights, of_sites (printed by gen_of.py). -/
namespace K6
open PySem PySem.Spec PyProof.Rows L2 NdefX
/-- the number of a word's class -/
def wtab : List (Str × Nat) := [("alike", 2), ("apart", 3), ("bounded", 4), ("deal", 5), ("every", 6), ("fallen", 7), ("falls", 8), ("grows", 9), ("lack", 10), ("lots", 11), ("mean", 12), ("played", 13), ("repeated", 14), ("safe", 15), ("same", 16), ("series", 17), ("short", 18), ("stands", 19), ("sure", 20), ("unlike", 21), ("unsure", 22), ("worth", 23)]
def wnum (z : Str) : Option Nat := wtab.lookup z
/-- a maker: the paper of the word, if it is one of ws -/
def spOf (K : PySem.W.Frag) (n : Nat) (ws : List Str) : Sp := fun vs H Q _ => ∃ (z : Str) (c : Nat) (l : Addr) (us : List V) (ds : List Dat), vs = [.str z, .ref l] ∧ wnum z = some c ∧ H l = some (.lst us) ∧ us.length = (fl c).length ∧ RpsK K H us ds ∧ okS ds = true ∧ cnS ds + 4 ≤ sizeLine ∧ depS ds ≤ n ∧
  ∀ H' v, Same H H' → (z ∈ ws → RpK K H' v (.pap c z (fixS ds))) → (z ∉ ws → v = .non) → Q v H'
section
variable {P : Program} {w : World} {K : PySem.W.Frag} {mg : Str → Option Value} {base : Heap}
/-- C(..) in a def -/
def MkOk (P : Program) (w : World) (K : PySem.W.Frag) (mg : Str → Option Value) (base : Heap) (k n c : Nat) (nm : Str) (ps : List Str) (z : Str) : Prop :=
  Mk K (ca K c) (He.ma K (ca K c) "__init__") ∧ mg nm = some (.ref (ca K c)) ∧ ClsOk P w K mg base k n c ps z
theorem pe_mk {X : Cx} {k n c : Nat} {nm : Str} {ps : List Str} {z : Str} {p pos : Pos} {e : Expr} {es : List Expr} {t : TA} (M : MkOk X.prog X.w X.K X.mg X.base k n c nm ps z) (hr : Room (k + 1) X.A) (ha : PA X (e :: es) t) (hg : Gl X nm := by rfl) (hdb : (nm == ("__debug__" : Str)) = false := by decide)
    (he : starEach (e :: es) X.env = (false, eval e X.env) :: starEach es X.env := by rfl) (hpl : (backTo pos (starEach es X.env)).any (·.1) = false := by rfl) : PE X (.Call (.Name nm p) (e :: es) [] pos) (tMake (ca X.K c) (spCls X.K n c z) [] E0 t) := by
  obtain ⟨mk, m, fd, F, b⟩ := M
  exact pe_make mk F hr hg m b .nil pass0 ha hdb he hpl
theorem of_make {n c : Nat} {z : Str} {us : List V} {ds : List Dat} {H : Hp} {Q : VK} {E : XK} (hl : us.length = (fl c).length) (r : RpsK K H us ds) (ho : okS ds = true) (hz : cnS ds + 4 ≤ sizeLine) (hd : depS ds ≤ n) (q : ∀ H' v, Same H H' → RpK K H' v (.pap c z (fixS ds)) → Q v H') :
    ∀ x dx, H x = none → H dx = none → dx ≠ x → spCls K n c z (.ref x :: (us ++ [])) (upd (upd H dx (.own x)) x (.ins (ca K c) dx [])) (fun v H2 => v = .non ∧ Q (.ref x) H2) E := by
  intro x dx nx ndx ne
  have s1 : Same H (upd (upd H dx (.own x)) x (.ins (ca K c) dx [])) := (Same.new ndx).trans (Same.new (by rw [upd_ne ne.symm]; exact nx))
  rw [List.append_nil]
  exact ⟨x, dx, us, ds, rfl, hl, upd_same, r.mono s1, ho, hz, hd, fun H' sb rp => ⟨rfl, q H' _ (fun b o e => sb b o (ne_of_none e nx) (s1 b o e)) rp⟩⟩

theorem sc_of_towers : FnScope ["word", "some"] ["word", "some"] (defScope (top 68)) := ⟨rfl, rfl, rfl, by decide +kernel, rfl, by decide +kernel, by decide +kernel⟩
theorem d_of_towers (T : Txt w K mg) {fd : FuncData} (F : FnT K "of_towers" 68 fd) {k n : Nat} (M2 : MkOk P w K mg base k n 2 "Alike" ["self", "lacks"] "alike") (M3 : MkOk P w K mg base k n 3 "Apart" ["self", "kind", "lacks"] "apart") (M5 : MkOk P w K mg base k n 5 "Deal" ["self", "trees"] "deal") (M10 : MkOk P w K mg base k n 10 "Lack" ["self", "number", "groups", "rods", "trees"] "lack") (M18 : MkOk P w K mg base k n 18 "Short" ["self", "groups"] "short") (M19 : MkOk P w K mg base k n 19 "Stands" ["self", "rows"] "stands") : Dfn P w K mg base CX0 (k + 2) "of_towers" ["word", "some"] (spOf K n ["alike", "apart", "deal", "lack", "short", "stands"]) := by
  refine dfn_mk F (T.g _ (by decide +kernel)) (fun _ _ _ _ _ _ us hl => match us, hl with | [_, _], _ => rfl) (F.ok sc_of_towers (fun vs H Q E h => by obtain ⟨z, c, l, us, ds, rfl, _⟩ := h; rfl) fun cdv A outer s H vs Q E hr h => ?_)
  refine ⟨_, PSs.nox (pss_cons (ps_if (pt_cmpR op_eq (pv 0) pe_str (nomark _)) (pss_one (ps_ret (pe_mk M2 hr (pa_cons (pe_ix ix_list (pv 1) pe_int (fun _ _ => rfl)) pa_nil)))) pss_nil)
    (pss_cons (ps_if (pt_cmpR op_eq (pv 0) pe_str (nomark _)) (pss_one (ps_ret (pe_mk M3 hr (pa_cons (pe_ix ix_list (pv 1) pe_int (fun _ _ => rfl)) (pa_cons (pe_ix ix_list (pv 1) pe_int (fun _ _ => rfl)) pa_nil))))) pss_nil)
    (pss_cons (ps_if (pt_cmpR op_eq (pv 0) pe_str (nomark _)) (pss_one (ps_ret (pe_mk M5 hr (pa_cons (pe_ix ix_list (pv 1) pe_int (fun _ _ => rfl)) pa_nil)))) pss_nil)
    (pss_cons (ps_if (pt_cmpR op_eq (pv 0) pe_str (nomark _)) (pss_one (ps_ret (pe_mk M10 hr (pa_cons (pe_ix ix_list (pv 1) pe_int (fun _ _ => rfl)) (pa_cons (pe_ix ix_list (pv 1) pe_int (fun _ _ => rfl)) (pa_cons (pe_ix ix_list (pv 1) pe_int (fun _ _ => rfl)) (pa_cons (pe_ix ix_list (pv 1) pe_int (fun _ _ => rfl)) pa_nil))))))) pss_nil)
    (pss_cons (ps_if (pt_cmpR op_eq (pv 0) pe_str (nomark _)) (pss_one (ps_ret (pe_mk M18 hr (pa_cons (pe_ix ix_list (pv 1) pe_int (fun _ _ => rfl)) pa_nil)))) pss_nil)
    (pss_cons (ps_if (pt_cmpR op_eq (pv 0) pe_str (nomark _)) (pss_one (ps_ret (pe_mk M19 hr (pa_cons (pe_ix ix_list (pv 1) pe_int (fun _ _ => rfl)) pa_nil)))) pss_nil)
    (pss_one (ps_ret pe_non)))))))), ?_⟩
  obtain ⟨z, c, l, us, ds, rfl, hc, hL, hl, r, ho, hz, hd, q⟩ := h
  refine ⟨_, rfl, rfl, _, rfl, ?_⟩
  by_cases h0 : z = ("alike" : Str)
  · subst h0
    obtain rfl : c = 2 := (Option.some.inj (hc.symm.trans (by decide +kernel : wnum "alike" = some 2)))
    rw [decide_eq_true (show V.str ("alike" : Str) = V.str ("alike" : Str) from rfl)]
    match us, hl, hL, r with
    | [v0], hl, hL, r =>
      refine iteT ?_
      refine ⟨_, rfl, l, _, _, v0, rfl, rfl, SqL.of hL, atI_nat (j := 0) rfl, ?_⟩
      exact of_make (us := [v0]) hl r ho hz hd fun H' v s' rp => q H' v s' (fun _ => rp) (fun no => absurd (by simp) no)
  · rw [decide_eq_false (show ¬ V.str z = V.str ("alike" : Str) from fun e => h0 (V.str.inj e))]
    refine iteF ?_
    refine ⟨_, rfl, rfl, _, rfl, ?_⟩
    by_cases h1 : z = ("apart" : Str)
    · subst h1
      obtain rfl : c = 3 := (Option.some.inj (hc.symm.trans (by decide +kernel : wnum "apart" = some 3)))
      rw [decide_eq_true (show V.str ("apart" : Str) = V.str ("apart" : Str) from rfl)]
      match us, hl, hL, r with
      | [v0, v1], hl, hL, r =>
        refine iteT ?_
        refine ⟨_, rfl, l, _, _, v0, rfl, rfl, SqL.of hL, atI_nat (j := 0) rfl, _, rfl, l, _, _, v1, rfl, rfl, SqL.of hL, atI_nat (j := 1) rfl, ?_⟩
        exact of_make (us := [v0, v1]) hl r ho hz hd fun H' v s' rp => q H' v s' (fun _ => rp) (fun no => absurd (by simp) no)
    · rw [decide_eq_false (show ¬ V.str z = V.str ("apart" : Str) from fun e => h1 (V.str.inj e))]
      refine iteF ?_
      refine ⟨_, rfl, rfl, _, rfl, ?_⟩
      by_cases h2 : z = ("deal" : Str)
      · subst h2
        obtain rfl : c = 5 := (Option.some.inj (hc.symm.trans (by decide +kernel : wnum "deal" = some 5)))
        rw [decide_eq_true (show V.str ("deal" : Str) = V.str ("deal" : Str) from rfl)]
        match us, hl, hL, r with
        | [v0], hl, hL, r =>
          refine iteT ?_
          refine ⟨_, rfl, l, _, _, v0, rfl, rfl, SqL.of hL, atI_nat (j := 0) rfl, ?_⟩
          exact of_make (us := [v0]) hl r ho hz hd fun H' v s' rp => q H' v s' (fun _ => rp) (fun no => absurd (by simp) no)
      · rw [decide_eq_false (show ¬ V.str z = V.str ("deal" : Str) from fun e => h2 (V.str.inj e))]
        refine iteF ?_
        refine ⟨_, rfl, rfl, _, rfl, ?_⟩
        by_cases h3 : z = ("lack" : Str)
        · subst h3
          obtain rfl : c = 10 := (Option.some.inj (hc.symm.trans (by decide +kernel : wnum "lack" = some 10)))
          rw [decide_eq_true (show V.str ("lack" : Str) = V.str ("lack" : Str) from rfl)]
          match us, hl, hL, r with
          | [v0, v1, v2, v3], hl, hL, r =>
            refine iteT ?_
            refine ⟨_, rfl, l, _, _, v0, rfl, rfl, SqL.of hL, atI_nat (j := 0) rfl, _, rfl, l, _, _, v1, rfl, rfl, SqL.of hL, atI_nat (j := 1) rfl, _, rfl, l, _, _, v2, rfl, rfl, SqL.of hL, atI_nat (j := 2) rfl, _, rfl, l, _, _, v3, rfl, rfl, SqL.of hL, atI_nat (j := 3) rfl, ?_⟩
            exact of_make (us := [v0, v1, v2, v3]) hl r ho hz hd fun H' v s' rp => q H' v s' (fun _ => rp) (fun no => absurd (by simp) no)
        · rw [decide_eq_false (show ¬ V.str z = V.str ("lack" : Str) from fun e => h3 (V.str.inj e))]
          refine iteF ?_
          refine ⟨_, rfl, rfl, _, rfl, ?_⟩
          by_cases h4 : z = ("short" : Str)
          · subst h4
            obtain rfl : c = 18 := (Option.some.inj (hc.symm.trans (by decide +kernel : wnum "short" = some 18)))
            rw [decide_eq_true (show V.str ("short" : Str) = V.str ("short" : Str) from rfl)]
            match us, hl, hL, r with
            | [v0], hl, hL, r =>
              refine iteT ?_
              refine ⟨_, rfl, l, _, _, v0, rfl, rfl, SqL.of hL, atI_nat (j := 0) rfl, ?_⟩
              exact of_make (us := [v0]) hl r ho hz hd fun H' v s' rp => q H' v s' (fun _ => rp) (fun no => absurd (by simp) no)
          · rw [decide_eq_false (show ¬ V.str z = V.str ("short" : Str) from fun e => h4 (V.str.inj e))]
            refine iteF ?_
            refine ⟨_, rfl, rfl, _, rfl, ?_⟩
            by_cases h5 : z = ("stands" : Str)
            · subst h5
              obtain rfl : c = 19 := (Option.some.inj (hc.symm.trans (by decide +kernel : wnum "stands" = some 19)))
              rw [decide_eq_true (show V.str ("stands" : Str) = V.str ("stands" : Str) from rfl)]
              match us, hl, hL, r with
              | [v0], hl, hL, r =>
                refine iteT ?_
                refine ⟨_, rfl, l, _, _, v0, rfl, rfl, SqL.of hL, atI_nat (j := 0) rfl, ?_⟩
                exact of_make (us := [v0]) hl r ho hz hd fun H' v s' rp => q H' v s' (fun _ => rp) (fun no => absurd (by simp) no)
            · rw [decide_eq_false (show ¬ V.str z = V.str ("stands" : Str) from fun e => h5 (V.str.inj e))]
              refine iteF ?_
              have no : z ∉ (["alike", "apart", "deal", "lack", "short", "stands"] : List Str) := by simp [h0, h1, h2, h3, h4, h5]
              exact q H _ (Same.refl H) (fun e => absurd e no) (fun _ => rfl)
theorem sc_of_games : FnScope ["word", "some"] ["word", "some"] (defScope (top 69)) := ⟨rfl, rfl, rfl, by decide +kernel, rfl, by decide +kernel, by decide +kernel⟩
theorem d_of_games (T : Txt w K mg) {fd : FuncData} (F : FnT K "of_games" 69 fd) {k n : Nat} (M6 : MkOk P w K mg base k n 6 "Every" ["self", "rows"] "every") (M7 : MkOk P w K mg base k n 7 "Fallen" ["self", "told", "groups"] "fallen") (M8 : MkOk P w K mg base k n 8 "Falls" ["self", "rows"] "falls") (M13 : MkOk P w K mg base k n 13 "Played" ["self", "laid", "picks", "place", "end"] "played") (M15 : MkOk P w K mg base k n 15 "Safe" ["self", "rows"] "safe") (M20 : MkOk P w K mg base k n 20 "Sure" ["self", "rows"] "sure") (M22 : MkOk P w K mg base k n 22 "Unsure" ["self", "rows"] "unsure") : Dfn P w K mg base CX0 (k + 2) "of_games" ["word", "some"] (spOf K n ["every", "fallen", "falls", "played", "safe", "sure", "unsure"]) := by
  refine dfn_mk F (T.g _ (by decide +kernel)) (fun _ _ _ _ _ _ us hl => match us, hl with | [_, _], _ => rfl) (F.ok sc_of_games (fun vs H Q E h => by obtain ⟨z, c, l, us, ds, rfl, _⟩ := h; rfl) fun cdv A outer s H vs Q E hr h => ?_)
  refine ⟨_, PSs.nox (pss_cons (ps_if (pt_cmpR op_eq (pv 0) pe_str (nomark _)) (pss_one (ps_ret (pe_mk M6 hr (pa_cons (pe_ix ix_list (pv 1) pe_int (fun _ _ => rfl)) pa_nil)))) pss_nil)
    (pss_cons (ps_if (pt_cmpR op_eq (pv 0) pe_str (nomark _)) (pss_one (ps_ret (pe_mk M7 hr (pa_cons (pe_ix ix_list (pv 1) pe_int (fun _ _ => rfl)) (pa_cons (pe_ix ix_list (pv 1) pe_int (fun _ _ => rfl)) pa_nil))))) pss_nil)
    (pss_cons (ps_if (pt_cmpR op_eq (pv 0) pe_str (nomark _)) (pss_one (ps_ret (pe_mk M8 hr (pa_cons (pe_ix ix_list (pv 1) pe_int (fun _ _ => rfl)) pa_nil)))) pss_nil)
    (pss_cons (ps_if (pt_cmpR op_eq (pv 0) pe_str (nomark _)) (pss_one (ps_ret (pe_mk M13 hr (pa_cons (pe_ix ix_list (pv 1) pe_int (fun _ _ => rfl)) (pa_cons (pe_ix ix_list (pv 1) pe_int (fun _ _ => rfl)) (pa_cons (pe_ix ix_list (pv 1) pe_int (fun _ _ => rfl)) (pa_cons (pe_ix ix_list (pv 1) pe_int (fun _ _ => rfl)) pa_nil))))))) pss_nil)
    (pss_cons (ps_if (pt_cmpR op_eq (pv 0) pe_str (nomark _)) (pss_one (ps_ret (pe_mk M15 hr (pa_cons (pe_ix ix_list (pv 1) pe_int (fun _ _ => rfl)) pa_nil)))) pss_nil)
    (pss_cons (ps_if (pt_cmpR op_eq (pv 0) pe_str (nomark _)) (pss_one (ps_ret (pe_mk M20 hr (pa_cons (pe_ix ix_list (pv 1) pe_int (fun _ _ => rfl)) pa_nil)))) pss_nil)
    (pss_cons (ps_if (pt_cmpR op_eq (pv 0) pe_str (nomark _)) (pss_one (ps_ret (pe_mk M22 hr (pa_cons (pe_ix ix_list (pv 1) pe_int (fun _ _ => rfl)) pa_nil)))) pss_nil)
    (pss_one (ps_ret pe_non))))))))), ?_⟩
  obtain ⟨z, c, l, us, ds, rfl, hc, hL, hl, r, ho, hz, hd, q⟩ := h
  refine ⟨_, rfl, rfl, _, rfl, ?_⟩
  by_cases h0 : z = ("every" : Str)
  · subst h0
    obtain rfl : c = 6 := (Option.some.inj (hc.symm.trans (by decide +kernel : wnum "every" = some 6)))
    rw [decide_eq_true (show V.str ("every" : Str) = V.str ("every" : Str) from rfl)]
    match us, hl, hL, r with
    | [v0], hl, hL, r =>
      refine iteT ?_
      refine ⟨_, rfl, l, _, _, v0, rfl, rfl, SqL.of hL, atI_nat (j := 0) rfl, ?_⟩
      exact of_make (us := [v0]) hl r ho hz hd fun H' v s' rp => q H' v s' (fun _ => rp) (fun no => absurd (by simp) no)
  · rw [decide_eq_false (show ¬ V.str z = V.str ("every" : Str) from fun e => h0 (V.str.inj e))]
    refine iteF ?_
    refine ⟨_, rfl, rfl, _, rfl, ?_⟩
    by_cases h1 : z = ("fallen" : Str)
    · subst h1
      obtain rfl : c = 7 := (Option.some.inj (hc.symm.trans (by decide +kernel : wnum "fallen" = some 7)))
      rw [decide_eq_true (show V.str ("fallen" : Str) = V.str ("fallen" : Str) from rfl)]
      match us, hl, hL, r with
      | [v0, v1], hl, hL, r =>
        refine iteT ?_
        refine ⟨_, rfl, l, _, _, v0, rfl, rfl, SqL.of hL, atI_nat (j := 0) rfl, _, rfl, l, _, _, v1, rfl, rfl, SqL.of hL, atI_nat (j := 1) rfl, ?_⟩
        exact of_make (us := [v0, v1]) hl r ho hz hd fun H' v s' rp => q H' v s' (fun _ => rp) (fun no => absurd (by simp) no)
    · rw [decide_eq_false (show ¬ V.str z = V.str ("fallen" : Str) from fun e => h1 (V.str.inj e))]
      refine iteF ?_
      refine ⟨_, rfl, rfl, _, rfl, ?_⟩
      by_cases h2 : z = ("falls" : Str)
      · subst h2
        obtain rfl : c = 8 := (Option.some.inj (hc.symm.trans (by decide +kernel : wnum "falls" = some 8)))
        rw [decide_eq_true (show V.str ("falls" : Str) = V.str ("falls" : Str) from rfl)]
        match us, hl, hL, r with
        | [v0], hl, hL, r =>
          refine iteT ?_
          refine ⟨_, rfl, l, _, _, v0, rfl, rfl, SqL.of hL, atI_nat (j := 0) rfl, ?_⟩
          exact of_make (us := [v0]) hl r ho hz hd fun H' v s' rp => q H' v s' (fun _ => rp) (fun no => absurd (by simp) no)
      · rw [decide_eq_false (show ¬ V.str z = V.str ("falls" : Str) from fun e => h2 (V.str.inj e))]
        refine iteF ?_
        refine ⟨_, rfl, rfl, _, rfl, ?_⟩
        by_cases h3 : z = ("played" : Str)
        · subst h3
          obtain rfl : c = 13 := (Option.some.inj (hc.symm.trans (by decide +kernel : wnum "played" = some 13)))
          rw [decide_eq_true (show V.str ("played" : Str) = V.str ("played" : Str) from rfl)]
          match us, hl, hL, r with
          | [v0, v1, v2, v3], hl, hL, r =>
            refine iteT ?_
            refine ⟨_, rfl, l, _, _, v0, rfl, rfl, SqL.of hL, atI_nat (j := 0) rfl, _, rfl, l, _, _, v1, rfl, rfl, SqL.of hL, atI_nat (j := 1) rfl, _, rfl, l, _, _, v2, rfl, rfl, SqL.of hL, atI_nat (j := 2) rfl, _, rfl, l, _, _, v3, rfl, rfl, SqL.of hL, atI_nat (j := 3) rfl, ?_⟩
            exact of_make (us := [v0, v1, v2, v3]) hl r ho hz hd fun H' v s' rp => q H' v s' (fun _ => rp) (fun no => absurd (by simp) no)
        · rw [decide_eq_false (show ¬ V.str z = V.str ("played" : Str) from fun e => h3 (V.str.inj e))]
          refine iteF ?_
          refine ⟨_, rfl, rfl, _, rfl, ?_⟩
          by_cases h4 : z = ("safe" : Str)
          · subst h4
            obtain rfl : c = 15 := (Option.some.inj (hc.symm.trans (by decide +kernel : wnum "safe" = some 15)))
            rw [decide_eq_true (show V.str ("safe" : Str) = V.str ("safe" : Str) from rfl)]
            match us, hl, hL, r with
            | [v0], hl, hL, r =>
              refine iteT ?_
              refine ⟨_, rfl, l, _, _, v0, rfl, rfl, SqL.of hL, atI_nat (j := 0) rfl, ?_⟩
              exact of_make (us := [v0]) hl r ho hz hd fun H' v s' rp => q H' v s' (fun _ => rp) (fun no => absurd (by simp) no)
          · rw [decide_eq_false (show ¬ V.str z = V.str ("safe" : Str) from fun e => h4 (V.str.inj e))]
            refine iteF ?_
            refine ⟨_, rfl, rfl, _, rfl, ?_⟩
            by_cases h5 : z = ("sure" : Str)
            · subst h5
              obtain rfl : c = 20 := (Option.some.inj (hc.symm.trans (by decide +kernel : wnum "sure" = some 20)))
              rw [decide_eq_true (show V.str ("sure" : Str) = V.str ("sure" : Str) from rfl)]
              match us, hl, hL, r with
              | [v0], hl, hL, r =>
                refine iteT ?_
                refine ⟨_, rfl, l, _, _, v0, rfl, rfl, SqL.of hL, atI_nat (j := 0) rfl, ?_⟩
                exact of_make (us := [v0]) hl r ho hz hd fun H' v s' rp => q H' v s' (fun _ => rp) (fun no => absurd (by simp) no)
            · rw [decide_eq_false (show ¬ V.str z = V.str ("sure" : Str) from fun e => h5 (V.str.inj e))]
              refine iteF ?_
              refine ⟨_, rfl, rfl, _, rfl, ?_⟩
              by_cases h6 : z = ("unsure" : Str)
              · subst h6
                obtain rfl : c = 22 := (Option.some.inj (hc.symm.trans (by decide +kernel : wnum "unsure" = some 22)))
                rw [decide_eq_true (show V.str ("unsure" : Str) = V.str ("unsure" : Str) from rfl)]
                match us, hl, hL, r with
                | [v0], hl, hL, r =>
                  refine iteT ?_
                  refine ⟨_, rfl, l, _, _, v0, rfl, rfl, SqL.of hL, atI_nat (j := 0) rfl, ?_⟩
                  exact of_make (us := [v0]) hl r ho hz hd fun H' v s' rp => q H' v s' (fun _ => rp) (fun no => absurd (by simp) no)
              · rw [decide_eq_false (show ¬ V.str z = V.str ("unsure" : Str) from fun e => h6 (V.str.inj e))]
                refine iteF ?_
                have no : z ∉ (["every", "fallen", "falls", "played", "safe", "sure", "unsure"] : List Str) := by simp [h0, h1, h2, h3, h4, h5, h6]
                exact q H _ (Same.refl H) (fun e => absurd e no) (fun _ => rfl)
theorem sc_of_heights : FnScope ["word", "some"] ["word", "some"] (defScope (top 70)) := ⟨rfl, rfl, rfl, by decide +kernel, rfl, by decide +kernel, by decide +kernel⟩
theorem d_of_heights (T : Txt w K mg) {fd : FuncData} (F : FnT K "of_heights" 70 fd) {k n : Nat} (M4 : MkOk P w K mg base k n 4 "Bounded" ["self", "most", "told", "partings", "rows"] "bounded") (M9 : MkOk P w K mg base k n 9 "Grows" ["self", "before", "again", "after", "partings"] "grows") (M12 : MkOk P w K mg base k n 12 "Mean" ["self", "top", "bottom", "rows", "before", "again", "after", "partings"] "mean") (M14 : MkOk P w K mg base k n 14 "Repeated" ["self", "first", "period", "step", "lacks", "window", "steps"] "repeated") (M17 : MkOk P w K mg base k n 17 "Series" ["self", "top", "bottom"] "series") : Dfn P w K mg base CX0 (k + 2) "of_heights" ["word", "some"] (spOf K n ["bounded", "grows", "mean", "repeated", "series"]) := by
  refine dfn_mk F (T.g _ (by decide +kernel)) (fun _ _ _ _ _ _ us hl => match us, hl with | [_, _], _ => rfl) (F.ok sc_of_heights (fun vs H Q E h => by obtain ⟨z, c, l, us, ds, rfl, _⟩ := h; rfl) fun cdv A outer s H vs Q E hr h => ?_)
  refine ⟨_, PSs.nox (pss_cons (ps_if (pt_cmpR op_eq (pv 0) pe_str (nomark _)) (pss_one (ps_ret (pe_mk M4 hr (pa_cons (pe_ix ix_list (pv 1) pe_int (fun _ _ => rfl)) (pa_cons (pe_ix ix_list (pv 1) pe_int (fun _ _ => rfl)) (pa_cons (pe_ix ix_list (pv 1) pe_int (fun _ _ => rfl)) (pa_cons (pe_ix ix_list (pv 1) pe_int (fun _ _ => rfl)) pa_nil))))))) pss_nil)
    (pss_cons (ps_if (pt_cmpR op_eq (pv 0) pe_str (nomark _)) (pss_one (ps_ret (pe_mk M9 hr (pa_cons (pe_ix ix_list (pv 1) pe_int (fun _ _ => rfl)) (pa_cons (pe_ix ix_list (pv 1) pe_int (fun _ _ => rfl)) (pa_cons (pe_ix ix_list (pv 1) pe_int (fun _ _ => rfl)) (pa_cons (pe_ix ix_list (pv 1) pe_int (fun _ _ => rfl)) pa_nil))))))) pss_nil)
    (pss_cons (ps_if (pt_cmpR op_eq (pv 0) pe_str (nomark _)) (pss_one (ps_ret (pe_mk M12 hr (pa_cons (pe_ix ix_list (pv 1) pe_int (fun _ _ => rfl)) (pa_cons (pe_ix ix_list (pv 1) pe_int (fun _ _ => rfl)) (pa_cons (pe_ix ix_list (pv 1) pe_int (fun _ _ => rfl)) (pa_cons (pe_ix ix_list (pv 1) pe_int (fun _ _ => rfl)) (pa_cons (pe_ix ix_list (pv 1) pe_int (fun _ _ => rfl)) (pa_cons (pe_ix ix_list (pv 1) pe_int (fun _ _ => rfl)) (pa_cons (pe_ix ix_list (pv 1) pe_int (fun _ _ => rfl)) pa_nil)))))))))) pss_nil)
    (pss_cons (ps_if (pt_cmpR op_eq (pv 0) pe_str (nomark _)) (pss_one (ps_ret (pe_mk M14 hr (pa_cons (pe_ix ix_list (pv 1) pe_int (fun _ _ => rfl)) (pa_cons (pe_ix ix_list (pv 1) pe_int (fun _ _ => rfl)) (pa_cons (pe_ix ix_list (pv 1) pe_int (fun _ _ => rfl)) (pa_cons (pe_ix ix_list (pv 1) pe_int (fun _ _ => rfl)) (pa_cons (pe_ix ix_list (pv 1) pe_int (fun _ _ => rfl)) (pa_cons (pe_ix ix_list (pv 1) pe_int (fun _ _ => rfl)) pa_nil))))))))) pss_nil)
    (pss_cons (ps_if (pt_cmpR op_eq (pv 0) pe_str (nomark _)) (pss_one (ps_ret (pe_mk M17 hr (pa_cons (pe_ix ix_list (pv 1) pe_int (fun _ _ => rfl)) (pa_cons (pe_ix ix_list (pv 1) pe_int (fun _ _ => rfl)) pa_nil))))) pss_nil)
    (pss_one (ps_ret pe_non))))))), ?_⟩
  obtain ⟨z, c, l, us, ds, rfl, hc, hL, hl, r, ho, hz, hd, q⟩ := h
  refine ⟨_, rfl, rfl, _, rfl, ?_⟩
  by_cases h0 : z = ("bounded" : Str)
  · subst h0
    obtain rfl : c = 4 := (Option.some.inj (hc.symm.trans (by decide +kernel : wnum "bounded" = some 4)))
    rw [decide_eq_true (show V.str ("bounded" : Str) = V.str ("bounded" : Str) from rfl)]
    match us, hl, hL, r with
    | [v0, v1, v2, v3], hl, hL, r =>
      refine iteT ?_
      refine ⟨_, rfl, l, _, _, v0, rfl, rfl, SqL.of hL, atI_nat (j := 0) rfl, _, rfl, l, _, _, v1, rfl, rfl, SqL.of hL, atI_nat (j := 1) rfl, _, rfl, l, _, _, v2, rfl, rfl, SqL.of hL, atI_nat (j := 2) rfl, _, rfl, l, _, _, v3, rfl, rfl, SqL.of hL, atI_nat (j := 3) rfl, ?_⟩
      exact of_make (us := [v0, v1, v2, v3]) hl r ho hz hd fun H' v s' rp => q H' v s' (fun _ => rp) (fun no => absurd (by simp) no)
  · rw [decide_eq_false (show ¬ V.str z = V.str ("bounded" : Str) from fun e => h0 (V.str.inj e))]
    refine iteF ?_
    refine ⟨_, rfl, rfl, _, rfl, ?_⟩
    by_cases h1 : z = ("grows" : Str)
    · subst h1
      obtain rfl : c = 9 := (Option.some.inj (hc.symm.trans (by decide +kernel : wnum "grows" = some 9)))
      rw [decide_eq_true (show V.str ("grows" : Str) = V.str ("grows" : Str) from rfl)]
      match us, hl, hL, r with
      | [v0, v1, v2, v3], hl, hL, r =>
        refine iteT ?_
        refine ⟨_, rfl, l, _, _, v0, rfl, rfl, SqL.of hL, atI_nat (j := 0) rfl, _, rfl, l, _, _, v1, rfl, rfl, SqL.of hL, atI_nat (j := 1) rfl, _, rfl, l, _, _, v2, rfl, rfl, SqL.of hL, atI_nat (j := 2) rfl, _, rfl, l, _, _, v3, rfl, rfl, SqL.of hL, atI_nat (j := 3) rfl, ?_⟩
        exact of_make (us := [v0, v1, v2, v3]) hl r ho hz hd fun H' v s' rp => q H' v s' (fun _ => rp) (fun no => absurd (by simp) no)
    · rw [decide_eq_false (show ¬ V.str z = V.str ("grows" : Str) from fun e => h1 (V.str.inj e))]
      refine iteF ?_
      refine ⟨_, rfl, rfl, _, rfl, ?_⟩
      by_cases h2 : z = ("mean" : Str)
      · subst h2
        obtain rfl : c = 12 := (Option.some.inj (hc.symm.trans (by decide +kernel : wnum "mean" = some 12)))
        rw [decide_eq_true (show V.str ("mean" : Str) = V.str ("mean" : Str) from rfl)]
        match us, hl, hL, r with
        | [v0, v1, v2, v3, v4, v5, v6], hl, hL, r =>
          refine iteT ?_
          refine ⟨_, rfl, l, _, _, v0, rfl, rfl, SqL.of hL, atI_nat (j := 0) rfl, _, rfl, l, _, _, v1, rfl, rfl, SqL.of hL, atI_nat (j := 1) rfl, _, rfl, l, _, _, v2, rfl, rfl, SqL.of hL, atI_nat (j := 2) rfl, _, rfl, l, _, _, v3, rfl, rfl, SqL.of hL, atI_nat (j := 3) rfl, _, rfl, l, _, _, v4, rfl, rfl, SqL.of hL, atI_nat (j := 4) rfl, _, rfl, l, _, _, v5, rfl, rfl, SqL.of hL, atI_nat (j := 5) rfl, _, rfl, l, _, _, v6, rfl, rfl, SqL.of hL, atI_nat (j := 6) rfl, ?_⟩
          exact of_make (us := [v0, v1, v2, v3, v4, v5, v6]) hl r ho hz hd fun H' v s' rp => q H' v s' (fun _ => rp) (fun no => absurd (by simp) no)
      · rw [decide_eq_false (show ¬ V.str z = V.str ("mean" : Str) from fun e => h2 (V.str.inj e))]
        refine iteF ?_
        refine ⟨_, rfl, rfl, _, rfl, ?_⟩
        by_cases h3 : z = ("repeated" : Str)
        · subst h3
          obtain rfl : c = 14 := (Option.some.inj (hc.symm.trans (by decide +kernel : wnum "repeated" = some 14)))
          rw [decide_eq_true (show V.str ("repeated" : Str) = V.str ("repeated" : Str) from rfl)]
          match us, hl, hL, r with
          | [v0, v1, v2, v3, v4, v5], hl, hL, r =>
            refine iteT ?_
            refine ⟨_, rfl, l, _, _, v0, rfl, rfl, SqL.of hL, atI_nat (j := 0) rfl, _, rfl, l, _, _, v1, rfl, rfl, SqL.of hL, atI_nat (j := 1) rfl, _, rfl, l, _, _, v2, rfl, rfl, SqL.of hL, atI_nat (j := 2) rfl, _, rfl, l, _, _, v3, rfl, rfl, SqL.of hL, atI_nat (j := 3) rfl, _, rfl, l, _, _, v4, rfl, rfl, SqL.of hL, atI_nat (j := 4) rfl, _, rfl, l, _, _, v5, rfl, rfl, SqL.of hL, atI_nat (j := 5) rfl, ?_⟩
            exact of_make (us := [v0, v1, v2, v3, v4, v5]) hl r ho hz hd fun H' v s' rp => q H' v s' (fun _ => rp) (fun no => absurd (by simp) no)
        · rw [decide_eq_false (show ¬ V.str z = V.str ("repeated" : Str) from fun e => h3 (V.str.inj e))]
          refine iteF ?_
          refine ⟨_, rfl, rfl, _, rfl, ?_⟩
          by_cases h4 : z = ("series" : Str)
          · subst h4
            obtain rfl : c = 17 := (Option.some.inj (hc.symm.trans (by decide +kernel : wnum "series" = some 17)))
            rw [decide_eq_true (show V.str ("series" : Str) = V.str ("series" : Str) from rfl)]
            match us, hl, hL, r with
            | [v0, v1], hl, hL, r =>
              refine iteT ?_
              refine ⟨_, rfl, l, _, _, v0, rfl, rfl, SqL.of hL, atI_nat (j := 0) rfl, _, rfl, l, _, _, v1, rfl, rfl, SqL.of hL, atI_nat (j := 1) rfl, ?_⟩
              exact of_make (us := [v0, v1]) hl r ho hz hd fun H' v s' rp => q H' v s' (fun _ => rp) (fun no => absurd (by simp) no)
          · rw [decide_eq_false (show ¬ V.str z = V.str ("series" : Str) from fun e => h4 (V.str.inj e))]
            refine iteF ?_
            have no : z ∉ (["bounded", "grows", "mean", "repeated", "series"] : List Str) := by simp [h0, h1, h2, h3, h4]
            exact q H _ (Same.refl H) (fun e => absurd e no) (fun _ => rfl)
theorem sc_of_sites : FnScope ["word", "some"] ["word", "some"] (defScope (top 71)) := ⟨rfl, rfl, rfl, by decide +kernel, rfl, by decide +kernel, by decide +kernel⟩
theorem d_of_sites (T : Txt w K mg) {fd : FuncData} (F : FnT K "of_sites" 71 fd) {k n : Nat} (M11 : MkOk P w K mg base k n 11 "Lots" ["self", "least", "greatest"] "lots") (M16 : MkOk P w K mg base k n 16 "Same" ["self", "rows"] "same") (M21 : MkOk P w K mg base k n 21 "Unlike" ["self", "told"] "unlike") (M23 : MkOk P w K mg base k n 23 "Worth" ["self", "price", "rows", "others"] "worth") : Dfn P w K mg base CX0 (k + 2) "of_sites" ["word", "some"] (spOf K n ["lots", "same", "unlike", "worth"]) := by
  refine dfn_mk F (T.g _ (by decide +kernel)) (fun _ _ _ _ _ _ us hl => match us, hl with | [_, _], _ => rfl) (F.ok sc_of_sites (fun vs H Q E h => by obtain ⟨z, c, l, us, ds, rfl, _⟩ := h; rfl) fun cdv A outer s H vs Q E hr h => ?_)
  refine ⟨_, PSs.nox (pss_cons (ps_if (pt_cmpR op_eq (pv 0) pe_str (nomark _)) (pss_one (ps_ret (pe_mk M11 hr (pa_cons (pe_ix ix_list (pv 1) pe_int (fun _ _ => rfl)) (pa_cons (pe_ix ix_list (pv 1) pe_int (fun _ _ => rfl)) pa_nil))))) pss_nil)
    (pss_cons (ps_if (pt_cmpR op_eq (pv 0) pe_str (nomark _)) (pss_one (ps_ret (pe_mk M16 hr (pa_cons (pe_ix ix_list (pv 1) pe_int (fun _ _ => rfl)) pa_nil)))) pss_nil)
    (pss_cons (ps_if (pt_cmpR op_eq (pv 0) pe_str (nomark _)) (pss_one (ps_ret (pe_mk M21 hr (pa_cons (pe_ix ix_list (pv 1) pe_int (fun _ _ => rfl)) pa_nil)))) pss_nil)
    (pss_cons (ps_if (pt_cmpR op_eq (pv 0) pe_str (nomark _)) (pss_one (ps_ret (pe_mk M23 hr (pa_cons (pe_ix ix_list (pv 1) pe_int (fun _ _ => rfl)) (pa_cons (pe_ix ix_list (pv 1) pe_int (fun _ _ => rfl)) (pa_cons (pe_ix ix_list (pv 1) pe_int (fun _ _ => rfl)) pa_nil)))))) pss_nil)
    (pss_one (ps_ret pe_non)))))), ?_⟩
  obtain ⟨z, c, l, us, ds, rfl, hc, hL, hl, r, ho, hz, hd, q⟩ := h
  refine ⟨_, rfl, rfl, _, rfl, ?_⟩
  by_cases h0 : z = ("lots" : Str)
  · subst h0
    obtain rfl : c = 11 := (Option.some.inj (hc.symm.trans (by decide +kernel : wnum "lots" = some 11)))
    rw [decide_eq_true (show V.str ("lots" : Str) = V.str ("lots" : Str) from rfl)]
    match us, hl, hL, r with
    | [v0, v1], hl, hL, r =>
      refine iteT ?_
      refine ⟨_, rfl, l, _, _, v0, rfl, rfl, SqL.of hL, atI_nat (j := 0) rfl, _, rfl, l, _, _, v1, rfl, rfl, SqL.of hL, atI_nat (j := 1) rfl, ?_⟩
      exact of_make (us := [v0, v1]) hl r ho hz hd fun H' v s' rp => q H' v s' (fun _ => rp) (fun no => absurd (by simp) no)
  · rw [decide_eq_false (show ¬ V.str z = V.str ("lots" : Str) from fun e => h0 (V.str.inj e))]
    refine iteF ?_
    refine ⟨_, rfl, rfl, _, rfl, ?_⟩
    by_cases h1 : z = ("same" : Str)
    · subst h1
      obtain rfl : c = 16 := (Option.some.inj (hc.symm.trans (by decide +kernel : wnum "same" = some 16)))
      rw [decide_eq_true (show V.str ("same" : Str) = V.str ("same" : Str) from rfl)]
      match us, hl, hL, r with
      | [v0], hl, hL, r =>
        refine iteT ?_
        refine ⟨_, rfl, l, _, _, v0, rfl, rfl, SqL.of hL, atI_nat (j := 0) rfl, ?_⟩
        exact of_make (us := [v0]) hl r ho hz hd fun H' v s' rp => q H' v s' (fun _ => rp) (fun no => absurd (by simp) no)
    · rw [decide_eq_false (show ¬ V.str z = V.str ("same" : Str) from fun e => h1 (V.str.inj e))]
      refine iteF ?_
      refine ⟨_, rfl, rfl, _, rfl, ?_⟩
      by_cases h2 : z = ("unlike" : Str)
      · subst h2
        obtain rfl : c = 21 := (Option.some.inj (hc.symm.trans (by decide +kernel : wnum "unlike" = some 21)))
        rw [decide_eq_true (show V.str ("unlike" : Str) = V.str ("unlike" : Str) from rfl)]
        match us, hl, hL, r with
        | [v0], hl, hL, r =>
          refine iteT ?_
          refine ⟨_, rfl, l, _, _, v0, rfl, rfl, SqL.of hL, atI_nat (j := 0) rfl, ?_⟩
          exact of_make (us := [v0]) hl r ho hz hd fun H' v s' rp => q H' v s' (fun _ => rp) (fun no => absurd (by simp) no)
      · rw [decide_eq_false (show ¬ V.str z = V.str ("unlike" : Str) from fun e => h2 (V.str.inj e))]
        refine iteF ?_
        refine ⟨_, rfl, rfl, _, rfl, ?_⟩
        by_cases h3 : z = ("worth" : Str)
        · subst h3
          obtain rfl : c = 23 := (Option.some.inj (hc.symm.trans (by decide +kernel : wnum "worth" = some 23)))
          rw [decide_eq_true (show V.str ("worth" : Str) = V.str ("worth" : Str) from rfl)]
          match us, hl, hL, r with
          | [v0, v1, v2], hl, hL, r =>
            refine iteT ?_
            refine ⟨_, rfl, l, _, _, v0, rfl, rfl, SqL.of hL, atI_nat (j := 0) rfl, _, rfl, l, _, _, v1, rfl, rfl, SqL.of hL, atI_nat (j := 1) rfl, _, rfl, l, _, _, v2, rfl, rfl, SqL.of hL, atI_nat (j := 2) rfl, ?_⟩
            exact of_make (us := [v0, v1, v2]) hl r ho hz hd fun H' v s' rp => q H' v s' (fun _ => rp) (fun no => absurd (by simp) no)
        · rw [decide_eq_false (show ¬ V.str z = V.str ("worth" : Str) from fun e => h3 (V.str.inj e))]
          refine iteF ?_
          have no : z ∉ (["lots", "same", "unlike", "worth"] : List Str) := by simp [h0, h1, h2, h3]
          exact q H _ (Same.refl H) (fun e => absurd e no) (fun _ => rfl)
end
end K6
end
section -- KF5
set_option maxHeartbeats 4000000
/-! made. -/
namespace K6
open PySem PySem.Spec PyProof.Rows L2 NdefX
def wsT : List Str := ["alike", "apart", "deal", "lack", "short", "stands"]
def wsG : List Str := ["every", "fallen", "falls", "played", "safe", "sure", "unsure"]
def wsH : List Str := ["bounded", "grows", "mean", "repeated", "series"]
def wsS : List Str := ["lots", "same", "unlike", "worth"]
theorem lookup_memK {α : Type} {z : Str} {c : α} : ∀ {l : List (Str × α)}, l.lookup z = some c → (z, c) ∈ l
  | [], h => by simp at h
  | (k, d) :: r, h => by
    by_cases e : z = k
    · subst e
      rw [List.lookup, beq_self_eq_true] at h
      have e2 : d = c := Option.some.inj h
      rw [e2]
      exact List.mem_cons_self
    · have b : (z == k) = false := by simpa using e
      rw [List.lookup, b] at h
      exact List.mem_cons_of_mem _ (lookup_memK h)
theorem wtab_all : ∀ q ∈ wtab, q.1 ∈ wsT ∨ q.1 ∈ wsG ∨ q.1 ∈ wsH ∨ q.1 ∈ wsS := by decide +kernel
theorem word_in {z : Str} {c : Nat} (h : wnum z = some c) : z ∈ wsT ∨ z ∈ wsG ∨ z ∈ wsH ∨ z ∈ wsS := wtab_all _ (lookup_memK h)
section
variable {P : Program} {w : World} {K : PySem.W.Frag} {mg : Str → Option Value} {base : Heap}
def spMade (K : PySem.W.Frag) (n : Nat) : Sp := fun vs H Q _ => ∃ (z : Str) (c : Nat) (l : Addr) (us : List V) (ds : List Dat), vs = [.str z, .ref l] ∧ wnum z = some c ∧ H l = some (.lst us) ∧ us.length = (fl c).length ∧ RpsK K H us ds ∧ okS ds = true ∧ cnS ds + 4 ≤ sizeLine ∧ depS ds ≤ n ∧
  ∀ H' v, Same H H' → RpK K H' v (.pap c z (fixS ds)) → Q v H'
theorem sc_made : FnScope ["word", "some", "paper"] ["word", "some"] (defScope (top 73)) := ⟨rfl, rfl, rfl, by decide +kernel, rfl, by decide +kernel, by decide +kernel⟩
theorem Rp.notN {ca : Nat → Addr} {fl : Flds} {H : Hp} {v : V} {c : Nat} {z : Str} {ds : List Dat} (r : Rp ca fl H v (.pap c z ds)) : v ≠ .non := by
  cases r
  intro e
  cases e
theorem d_made (T : Txt w K mg) {fd : FuncData} (F : FnT K "made" 73 fd) {k n : Nat} (D1 : Dfn P w K mg base CX0 k "of_towers" ["word", "some"] (spOf K n wsT)) (D2 : Dfn P w K mg base CX0 k "of_games" ["word", "some"] (spOf K n wsG))
    (D3 : Dfn P w K mg base CX0 k "of_heights" ["word", "some"] (spOf K n wsH)) (D4 : Dfn P w K mg base CX0 k "of_sites" ["word", "some"] (spOf K n wsS)) : Dfn P w K mg base CX0 (k + 1) "made" ["word", "some"] (spMade K n) := by
  refine dfn_mk F (T.g _ (by decide +kernel)) (fun _ _ _ _ _ _ us hl => match us, hl with | [_, _], _ => rfl) (F.ok sc_made (fun vs H Q E h => by obtain ⟨z, c, l, us, ds, rfl, _⟩ := h; rfl) fun cdv A outer s H vs Q E hr h => ?_)
  refine ⟨_, PSs.nox (pss_cons (ps_for PassesOwn.never rfl (pi_tup (pe_tup (pa_cons (pe_d D1 hr pass0 (pa_cons (pv 0) (pa_cons (pv 1) pa_nil))) (pa_cons (pe_d D2 hr pass0 (pa_cons (pv 0) (pa_cons (pv 1) pa_nil))) (pa_cons (pe_d D3 hr pass0 (pa_cons (pv 0) (pa_cons (pv 1) pa_nil))) (pa_cons (pe_d D4 hr pass0 (pa_cons (pv 0) (pa_cons (pv 1) pa_nil))) pa_nil))))))
      (pg_name (i := 2) sc_made.nd rfl (Or.inl rfl)) (pss_one (ps_if (pt_cmpR op_notN (pv 2) pe_non (nomark _)) (pss_one (ps_ret (pv 2))) pss_nil)))
    (pss_one (ps_ret pe_non))), ?_⟩
  obtain ⟨z, c, l, us, ds, rfl, hc, hL, hl, r, ho, hz, hd, q⟩ := h
  refine ⟨_, rfl, _, rfl, z, c, l, us, ds, rfl, hc, hL, hl, r, ho, hz, hd, fun H1 v1 s1 a1 b1 => ?_⟩
  refine ⟨_, rfl, _, rfl, z, c, l, us, ds, rfl, hc, s1 _ _ hL, hl, r.mono s1, ho, hz, hd, fun H2 v2 s2 a2 b2 => ?_⟩
  have s12 := s1.trans s2
  refine ⟨_, rfl, _, rfl, z, c, l, us, ds, rfl, hc, s12 _ _ hL, hl, r.mono s12, ho, hz, hd, fun H3 v3 s3 a3 b3 => ?_⟩
  have s13 := s12.trans s3
  refine ⟨_, rfl, _, rfl, z, c, l, us, ds, rfl, hc, s13 _ _ hL, hl, r.mono s13, ho, hz, hd, fun H4 v4 s4 a4 b4 => ?_⟩
  refine ⟨by show 4 ≤ sizeLine; decide, fun p np => ?_⟩
  have s5 : Same H4 (upd H4 p (.tup [v1, v2, v3, v4])) := Same.new np
  have sf := (s13.trans s4).trans s5
  have s25 := ((s2.trans s3).trans s4).trans s5
  have s35 := (s3.trans s4).trans s5
  have s45 := s4.trans s5
  have key : ∀ (i : Nat) (x : V), ([v1, v2, v3, v4] : List V)[i]? = some x → x = .non ∨ RpK K (upd H4 p (.tup [v1, v2, v3, v4])) x (.pap c z (fixS ds)) := by
    intro i x hi
    match i, hi with
    | 0, hi =>
      obtain rfl : v1 = x := Option.some.inj hi
      by_cases m : z ∈ wsT
      · exact .inr ((a1 m).mono s25)
      · exact .inl (b1 m)
    | 1, hi =>
      obtain rfl : v2 = x := Option.some.inj hi
      by_cases m : z ∈ wsG
      · exact .inr ((a2 m).mono s35)
      · exact .inl (b2 m)
    | 2, hi =>
      obtain rfl : v3 = x := Option.some.inj hi
      by_cases m : z ∈ wsH
      · exact .inr ((a3 m).mono s45)
      · exact .inl (b3 m)
    | 3, hi =>
      obtain rfl : v4 = x := Option.some.inj hi
      by_cases m : z ∈ wsS
      · exact .inr ((a4 m).mono s5)
      · exact .inl (b4 m)
  have some_ : ∃ (i : Nat) (x : V), ([v1, v2, v3, v4] : List V)[i]? = some x ∧ x ≠ .non := by
    rcases word_in hc with m | m | m | m
    · exact ⟨0, v1, rfl, (a1 m).notN⟩
    · exact ⟨1, v2, rfl, (a2 m).notN⟩
    · exact ⟨2, v3, rfl, (a3 m).notN⟩
    · exact ⟨3, v4, rfl, (a4 m).notN⟩
  generalize hH : upd H4 p (.tup [v1, v2, v3, v4]) = H5 at *
  have hp : H5 p = some (.tup [v1, v2, v3, v4]) := by rw [← hH]; exact upd_same
  refine ⟨p, rfl, ⟨_, SqT.of hp⟩, for_tup (xs := [v1, v2, v3, v4]) (fun i σ H' => H' = H5 ∧ (∃ t, σ = [some (.str z), some (.ref l), t]) ∧ ∀ (j : Nat) (x : V), j < i → ([v1, v2, v3, v4] : List V)[j]? = some x → x = .non) ⟨rfl, ⟨_, rfl⟩, fun j x hj => absurd hj (Nat.not_lt_zero _)⟩ (fun i σ H' _ h => by
    rw [h.1]
    exact SqT.of hp) (fun i x σ H' hx h => ?_) fun σ H' h => ?_⟩
  · obtain ⟨rfl, ⟨t, rfl⟩, hn⟩ := h
    refine ⟨_, rfl, rfl, _, rfl, ?_⟩
    rcases key i x hx with e | e
    · subst e
      refine iteF ⟨rfl, ⟨_, rfl⟩, fun j y hj hy => ?_⟩
      by_cases hji : j < i
      · exact hn j y hji hy
      · obtain rfl : j = i := by omega
        exact (Option.some.inj (hx.symm.trans hy)).symm
    · rw [decide_eq_false e.notN]
      exact iteT ⟨_, rfl, q _ _ sf e⟩
  · obtain ⟨i, x, hx, ne⟩ := some_
    exact absurd (h.2.2 i x (List.getElem?_eq_some_iff.mp hx).1 hx) ne
end
end K6
end
section -- KBool
set_option maxHeartbeats 4000000
/-! bool(x) of an instance whose class has an own __bool__. -/
namespace K6
open PySem PySem.Spec PyProof.Rows L2
section
variable {prog : Program} {w : World} {A : Around} {E : Value → Shared → Prop} {s : Shared} {K : PySem.W.Frag} {x C f : Addr} {ox : Obj} {odd : Option Obj}
theorem truthy_own6 {M : Model} {Q : Bool → Shared → Prop} (X : K.In s.heap) (I : PySem.W.InstAt s.heap x ox C odd) (hs : PySem.W.findIn K (.ref C) "__bool__" = some (some (.ref f))) (hf : PySem.W.isFn K (.ref f) = true)
    (h : wpAny M A (call (.ref f) [.ref x]) (fun r s₁ => ∃ b, r = Value.bool b ∧ Q b s₁) E s) : wpAny M A (truthy (.ref x)) Q E s := by
  unfold truthy
  refine wpAny_bind (m := callSpecial? (.ref x) (Str.ofString "__bool__")) (PySem.W.special_fn X I hs (beq_iff_eq.mp hf) (wpAny_mono h (fun r s' hr => ?_) fun _ _ y => y))
  obtain ⟨b, rfl, hq⟩ := hr
  exact wpAny_pure hq
theorem bool_own {Q : Value → Shared → Prop} (X : K.In s.heap) (I : PySem.W.InstAt s.heap x ox C odd) (hs : PySem.W.findIn K (.ref C) "__bool__" = some (some (.ref f))) (hf : PySem.W.isFn K (.ref f) = true)
    (h : wpAny (model prog w) A.in1.in1 (call (.ref f) [.ref x]) (fun r s₁ => ∃ b, r = Value.bool b ∧ Q r s₁) E s) : wpAny (model prog w) A (call (.type "bool") [.ref x]) Q E s := by
  refine callType_codes (T := "bool") (Bi := Builtin.«object.__init__») (Q₁ := fun r s₁ => ∃ b, r = Value.bool b ∧ Q r s₁) PySem.F.called_bool (PySem.F.typeCall_bool_1 _) PySem.F.entry_object_init ?_ ?_
  · refine codeAny_of_tree ?_
    show wpAny _ A.in1.in1 (do checkBuiltinCall "bool.__new__" ⟨[.type "bool", .ref x], []⟩; again (.builtin "bool.__new__" ⟨[.type "bool", .ref x], []⟩)) _ _ s
    refine wpAny_bind (wpAny_of_eq (PySem.F.newCall_bool_1 _) (wpAny_pure ⟨plainId_quiet (by decide +kernel) _, codeAny_builtin PySem.F.entry_bool_new ?_⟩))
    rw [Around.under_plainId (by decide +kernel) _]
    unfold Builtin.«bool.__new__»
    refine wpAny_bind (wpAny_of_eq (a := true) (by rfl) ?_)
    refine PySem.W.KFB.if_not rfl ?_
    refine wpAny_bind (wpAny_of_eq (a := true) PySem.F.conv_sub_bool ?_)
    refine PySem.W.KFB.if_not rfl ?_
    refine wpAny_bind (wpAny_of_eq (a := [Value.ref x]) (by rfl) ?_)
    refine wpAny_bind (truthy_own6 X I hs hf (wpAny_mono h (fun r s₁ hr => ?_) fun _ _ y => y))
    obtain ⟨b, rfl, hq⟩ := hr
    exact ⟨b, rfl, wpAny_pure ⟨b, rfl, hq⟩⟩
  · rintro obj s₁ ⟨b, rfl, hq⟩
    exact ⟨PySem.typeIs_bool _ _, PySem.F.args_object_init_2 _ _, object_init_meets PySem.F.called_bool.init.lookup PySem.F.called_bool.made (by decide) prog w A.in1 _ s₁ ⟨PySem.typeIs_bool _ _, rfl, hq⟩⟩
end
section
variable {X : Cx} {CX : CXT} {C g : Addr} {n : Nat} {sp : Sp} {E : XK}
/-- bool(x) of an instance -/
def rBoolOwn (K : PySem.W.Frag) (C : Addr) (sp : Sp) (E : XK) : List V → Hp → VK → Prop := fun xs H Q => ∃ a dx fs, xs = [V.ref a] ∧ H a = some (.ins C dx fs) ∧ sp [.ref a] H (fun z H' => ∃ b, z = .bl b ∧ Q z H') E
theorem call_boolOwn (hs : PySem.W.findIn X.K (.ref C) "__bool__" = some (some (.ref g))) (hf : PySem.W.isFn X.K (.ref g) = true) (F : FnR X.prog X.w X.K X.mg X.base CX n g sp) (hr : Room (n + 2) X.A) (hx : Passes CX X E) : CallR X (.type "bool") (rBoolOwn X.K C sp E) := by
  intro pins s σ H xs us Q I r h
  obtain ⟨a, dx, fs, rfl, ha, q⟩ := h
  obtain ⟨u, rfl, ru⟩ := r.one
  cases (show u = Value.ref a from ru)
  obtain ⟨mA, O, _⟩ := ins_get I.hok ha
  obtain ⟨od, J, _⟩ := O.look
  have hr2 : Room n X.A.in1.in1 := (show Room (n + 1) X.A.in1 from Room.in1 hr).in1
  refine bool_own I.kIn J hs hf (wpAny_mono (wpAny_call (SlX.run_at (us := [.ref a]) (ws := [.ref a]) F hr2 I.env0.in1.in1 hx I (.cons rfl .nil) q)) (fun w s' z => ?_) fun _ _ x => x)
  obtain ⟨z', H', I', rz, b, ei, qz⟩ := z
  subst ei
  cases (show w = Value.bool b from rz)
  exact ⟨b, rfl, .bl b, H', I', rfl, qz⟩
/-- the truth of an instance -/
theorem tru_own (hs : PySem.W.findIn X.K (.ref C) "__bool__" = some (some (.ref g))) (hf : PySem.W.isFn X.K (.ref g) = true) (F : FnR X.prog X.w X.K X.mg X.base CX n g sp) (hr : Room n X.A) (hx : Passes CX X E) :
    TruR X (fun x H Q => ∃ a dx fs, x = .ref a ∧ H a = some (.ins C dx fs) ∧ sp [.ref a] H (fun z H' => ∃ b, z = .bl b ∧ Q b H') E) := by
  intro pins s σ H x v Q I rx h
  obtain ⟨a, dx, fs, rfl, ha, q⟩ := h
  cases (show v = Value.ref a from rx)
  obtain ⟨mA, O, _⟩ := ins_get I.hok ha
  obtain ⟨od, J, _⟩ := O.look
  refine truthy_own6 I.kIn J hs hf (wpAny_mono (wpAny_call (SlX.run_at (us := [.ref a]) (ws := [.ref a]) F hr I.env0 hx I (.cons rfl .nil) q)) (fun w s' z => ?_) fun _ _ x => x)
  obtain ⟨z', H', I', rz, b, ei, qz⟩ := z
  subst ei
  cases (show w = Value.bool b from rz)
  exact ⟨b, rfl, H', I', qz⟩
theorem pt_tru {r : V → Hp → (Bool → Hp → Prop) → Prop} {a : Expr} {ta : TE} (h : TruR X r) (ha : PE X a ta) (he : ∀ whole, isTrue a X.env whole = (do let v ← whole; standAt a.pos; holding [v] (truthy v)) := by intro _; rfl) :
    PT X a (fun σ H Q => ta σ H fun x H' => r x H' Q) := by
  refine ⟨fun pins s σ H Q I h2 => ?_⟩
  exact isTrue_plain (thn (ha.run pins s σ H _ I h2) fun v s1 ⟨x, H1, I1, r1, q1⟩ => h pins s1 σ H1 x v Q I1 r1 q1) (he _)
/-- one of two rules for a call -/
theorem call_or {f : Value} {r1 r2 : List V → Hp → VK → Prop} (h1 : CallR X f r1) (h2 : CallR X f r2) : CallR X f (fun xs H Q => r1 xs H Q ∨ r2 xs H Q) :=
  fun pins s σ H xs us Q I r h => h.elim (h1 pins s σ H xs us Q I r) (h2 pins s σ H xs us Q I r)
end
end K6
end
section -- KF6
set_option maxHeartbeats 4000000
/-! The truth of papers. -/
namespace K6
open PySem PySem.Spec PyProof.Rows L2 NdefX
section
variable {P : Program} {w : World} {K : PySem.W.Frag} {mg : Str → Option Value} {base : Heap}
def spBl (b : Bool) : Sp := fun vs H Q _ => ∃ v, vs = [v] ∧ Q (.bl b) H
theorem sc_b0 : FnScope ["self"] ["self"] (defScope (inClass (top 27) 2)) := ⟨rfl, rfl, rfl, by decide +kernel, rfl, by decide +kernel, by decide +kernel⟩
theorem sc_b1 : FnScope ["self"] ["self"] (defScope (inClass (top 28) 0)) := ⟨rfl, rfl, rfl, by decide +kernel, rfl, by decide +kernel, by decide +kernel⟩
theorem d_b0 {fd : FuncData} (F : MtT K "Paper" "__bool__" "Paper.__bool__" 27 2 fd) : FnR P w K mg base CX0 1 (He.ma K (ca K 0) "__bool__") (spBl true) := by
  have O : FnOk P w K mg base CX0 1 (He.ma K (He.ga K "Paper") "__bool__") fd ["self"] (spBl true) := F.ok sc_b0 (fun vs H Q E h => by obtain ⟨v, rfl, _⟩ := h; rfl) fun cdv A outer s H vs Q E hr h => by
    refine ⟨_, PSs.nox (pss_one (ps_ret pe_bl)), ?_⟩
    obtain ⟨v, rfl, q⟩ := h
    exact q
  refine (O.raw (F.bindsN fun _ _ _ _ _ _ us hl => match us, hl with | [_], _ => rfl) .nil).imp fun vs H Q E h => ?_
  rw [List.append_nil]
  exact h
theorem d_b1 {fd : FuncData} (F : MtT K "Denial" "__bool__" "Denial.__bool__" 28 0 fd) : FnR P w K mg base CX0 1 (He.ma K (ca K 1) "__bool__") (spBl false) := by
  have O : FnOk P w K mg base CX0 1 (He.ma K (He.ga K "Denial") "__bool__") fd ["self"] (spBl false) := F.ok sc_b1 (fun vs H Q E h => by obtain ⟨v, rfl, _⟩ := h; rfl) fun cdv A outer s H vs Q E hr h => by
    refine ⟨_, PSs.nox (pss_one (ps_ret pe_bl)), ?_⟩
    obtain ⟨v, rfl, q⟩ := h
    exact q
  refine (O.raw (F.bindsN fun _ _ _ _ _ _ us hl => match us, hl with | [_], _ => rfl) .nil).imp fun vs H Q E h => ?_
  rw [List.append_nil]
  exact h
/-- both truths, as they are walked -/
def Bools (P : Program) (w : World) (K : PySem.W.Frag) (mg : Str → Option Value) (base : Heap) : Prop := FnR P w K mg base CX0 1 (He.ma K (ca K 0) "__bool__") (spBl true) ∧ FnR P w K mg base CX0 1 (He.ma K (ca K 1) "__bool__") (spBl false)
theorem bool_at (T : Txt w K mg) (B : Bools P w K mg base) {c : Nat} (hc : c < 24) : ∃ g, PySem.W.findIn K (.ref (ca K c)) "__bool__" = some (some (.ref g)) ∧ PySem.W.isFn K (.ref g) = true ∧ FnR P w K mg base CX0 1 g (spBl (!den c)) := by
  have p := (T.p c hc).bo
  cases e : den c with
  | true =>
    rw [e, if_pos rfl] at p
    exact ⟨_, p, T.b1, B.2⟩
  | false =>
    rw [e, if_neg Bool.false_ne_true] at p
    exact ⟨_, p, T.b0, B.1⟩
section
variable {X : Cx}
/-- bool(x), x a paper; its truth -/
theorem call_boolP (T : Txt X.w X.K X.mg) (B : Bools X.prog X.w X.K X.mg X.base) (hr : Room 3 X.A) : CallR X (.type "bool") (fun xs H Q => ∃ v c z ds, xs = [v] ∧ RpK X.K H v (.pap c z ds) ∧ c < 24 ∧ Q (.bl (!den c)) H) := by
  intro pins s σ H xs us Q I r h
  obtain ⟨v, c, z, ds, rfl, rp, hc, q⟩ := h
  obtain ⟨g, h1, h2, F⟩ := bool_at T B hc
  cases rp with
  | pap ha hw hp ht hf hm r2 => exact call_boolOwn (CX := CX0) (E := E0) h1 h2 F hr pass0 pins s σ H _ us Q I r ⟨_, _, _, rfl, ha, _, rfl, _, rfl, q⟩
theorem tru_P (T : Txt X.w X.K X.mg) (B : Bools X.prog X.w X.K X.mg X.base) (hr : Room 1 X.A) : TruR X (fun v H Q => ∃ c z ds, RpK X.K H v (.pap c z ds) ∧ c < 24 ∧ Q (!den c) H) := by
  intro pins s σ H x v Q I rx h
  obtain ⟨c, z, ds, rp, hc, q⟩ := h
  obtain ⟨g, h1, h2, F⟩ := bool_at T B hc
  cases rp with
  | pap ha hw hp ht hf hm r2 => exact tru_own (CX := CX0) (E := E0) h1 h2 F hr pass0 pins s σ H _ v Q I rx ⟨_, _, _, rfl, ha, _, rfl, _, rfl, q⟩
end
end
end K6
end
section -- KF7
set_option maxHeartbeats 4000000
/-! is_like, Paper.__eq__: alike papers. -/
namespace K6
open PySem PySem.Spec PyProof.Rows L2 NdefX
mutual
/-- nothing, numbers, texts, tuples, papers -/
def Dat.pl : Dat → Bool
  | .tup ds => plS ds
  | .pap _ _ ds => plS ds
  | .non => true
  | .int _ => true
  | .str _ => true
  | _ => false
def plS : List Dat → Bool
  | [] => true
  | d :: r => d.pl && plS r
end
theorem plS_at : ∀ {ds : List Dat} {i : Nat} {d : Dat}, plS ds = true → ds[i]? = some d → d.pl = true
  | [], i, d, _, h => by simp at h
  | e :: r, 0, d, o, h => by
    have e2 := Option.some.inj h
    rw [← e2]
    have o : (e.pl && plS r) = true := o
    rw [Bool.and_eq_true] at o
    exact o.1
  | e :: r, i + 1, d, o, h => by
    have o : (e.pl && plS r) = true := o
    rw [Bool.and_eq_true] at o
    exact plS_at (ds := r) (i := i) o.2 h
theorem plS_all : ∀ {ds : List Dat}, (∀ (i : Nat) (d : Dat), ds[i]? = some d → d.pl = true) → plS ds = true
  | [], _ => rfl
  | e :: r, h => by
    show (e.pl && plS r) = true
    rw [Bool.and_eq_true]
    exact ⟨h 0 e rfl, plS_all fun i d q => h (i + 1) d q⟩
mutual
theorem pl_nl : ∀ d : Dat, d.pl = true → d.nl = true
  | .non, _ => rfl
  | .bl _, h => by cases h
  | .int _, _ => rfl
  | .str _, _ => rfl
  | .emp, h => by cases h
  | .lst _, h => by cases h
  | .pap _ _ ds, h => plS_nl ds h
  | .tup ds, h => plS_nl ds h
theorem plS_nl : ∀ ds : List Dat, plS ds = true → nlS ds = true
  | [], _ => rfl
  | d :: r, h => by
    have h : (d.pl && plS r) = true := h
    rw [Bool.and_eq_true] at h
    show (d.nl && nlS r) = true
    rw [Bool.and_eq_true]
    exact ⟨pl_nl d h.1, plS_nl r h.2⟩
end
def Dat.rank : Dat → Nat
  | .pap c z ds => 2 * (Dat.pap c z ds).dep + 1
  | d => 2 * d.dep
theorem rank_le (d : Dat) : d.rank ≤ 2 * d.dep + 1 := by
  cases d with
  | pap c z ds => exact Nat.le_refl _
  | _ => exact Nat.le_succ _
theorem walk_zipT {K : PySem.W.Frag} {a b : Addr} {xs ys : List V} (hn : xs.length = ys.length) : Walk (RZ.ItzT K a b) xs.length (fun H => SqT K H a xs ∧ SqT K H b ys) (YPair (fun i => xs[i]?) (fun i => ys[i]?)) := by
  refine ⟨fun i _ hi q => ?_, fun _ q => ⟨xs, ys, q.1, q.2, .inl (Nat.le_refl _)⟩, fun i H v H' _ q y => ?_⟩
  · have h2 : i < ys.length := by omega
    exact ⟨xs, ys, xs[i], ys[i], q.1, q.2, by simp [hi], by simp [h2]⟩
  · obtain ⟨T, x, z, h1, h2, h3, h4, h5⟩ := y
    exact ⟨T, x, z, h1, h2, h3, h4 xs q.1, h5 ys q.2⟩
section
variable {P : Program} {w : World} {K : PySem.W.Frag} {mg : Str → Option Value} {base : Heap}
/-- data that is_like says True of -/
structure LikeD (r : Nat) (d : Dat) : Prop where
  ok : d.ok = true
  pl : d.pl = true
  sz : d.sz ≤ sizeLine
  rk : d.rank ≤ r
def spLike (K : PySem.W.Frag) (r : Nat) : Sp := fun vs H Q _ => ∃ u v d, vs = [u, v] ∧ RpK K H u d ∧ RpK K H v d ∧ LikeD r d ∧ ∀ H', Same H H' → Q (.bl true) H'
def spLikeN (K : PySem.W.Frag) : Nat → Sp
  | 0 => fun _ _ _ _ => False
  | n + 1 => spLike K n
def REq (K : PySem.W.Frag) (r : Nat) : Addr → Addr → Hp → Prop := fun a b H => ∃ c z ds, RpK K H (.ref a) (.pap c z ds) ∧ RpK K H (.ref b) (.pap c z ds) ∧ LikeD r (.pap c z ds)
theorem likeD_parts {r c : Nat} {z : Str} {ds : List Dat} (h : LikeD r (.pap c z ds)) : c < 24 ∧ LikeD (r - 1) (.tup ds) ∧ 1 ≤ r := by
  obtain ⟨h1, h2, h3, h4⟩ := h
  have h1 : (decide (c < 24) && (nlS ds && okS ds)) = true := h1
  rw [Bool.and_eq_true, Bool.and_eq_true] at h1
  have h4 : 2 * (depS ds + 1) + 1 ≤ r := h4
  have h3 : 5 + z.length + szS ds ≤ sizeLine := h3
  have g3 : 4 + szS ds ≤ sizeLine := by omega
  have g4 : 2 * (depS ds + 1) ≤ r - 1 := by omega
  exact ⟨of_decide_eq_true h1.1, ⟨h1.2.2, h2, g3, g4⟩, by omega⟩
theorem likeD_item {r : Nat} {ds : List Dat} {i : Nat} {d : Dat} (h : LikeD r (.tup ds)) (hi : ds[i]? = some d) : LikeD (r - 1) d ∧ 1 ≤ r := by
  obtain ⟨h1, h2, h3, h4⟩ := h
  have h4 : 2 * (depS ds + 1) ≤ r := h4
  have h3 : 4 + szS ds ≤ sizeLine := h3
  have e1 := dep_le hi
  have e2 := sz_at hi
  have e3 := rank_le d
  exact ⟨⟨okS_at h1 hi, plS_at h2 hi, by omega, by omega⟩, by omega⟩
theorem sc_eq : FnScope ["self", "other"] ["self", "other"] (defScope (inClass (top 27) 1)) := ⟨rfl, rfl, rfl, by decide +kernel, rfl, by decide +kernel, by decide +kernel⟩
/-- two papers, seen by rule -/
theorem d_eq (T : Txt w K mg) (B : Bools P w K mg base) {fd : FuncData} (F : MtT K "Paper" "__eq__" "Paper.__eq__" 27 1 fd) {k r : Nat} (hk : 3 ≤ k) (D : Dfn P w K mg base CX0 k "is_like" ["one", "other"] (spLikeN K r)) :
    FnOk P w K mg base CX0 (k + 1) (He.ma K (ca K 0) "__eq__") fd ["self", "other"] (spEq (REq K r)) := by
  refine F.ok sc_eq (fun vs H Q E h => by obtain ⟨a, b, rfl, _⟩ := h; rfl) fun cdv A outer s H vs Q E hr h => ?_
  have mI := T.z "isinstance" (by decide +kernel)
  have mB := T.z "bool" (by decide +kernel)
  have gP := T.g "Paper" (by decide +kernel)
  refine ⟨_, PSs.nox (pss_cons (ps_if (pt_not (pt_val (pe_callB call_isi rfl mI (by decide +kernel) (pa_cons (pv 1) (pa_cons (pe_go gP) pa_nil))))) (pss_one (ps_ret pe_bl)) pss_nil)
    (pss_one (ps_ret (pe_and (pe_cmpR op_eq (pe_callTy (call_boolP T B (hr.mono hk)) rfl mB (by decide +kernel) (pa_cons (pv 0) pa_nil)) (pe_callTy (call_boolP T B (hr.mono hk)) rfl mB (by decide +kernel) (pa_cons (pv 1) pa_nil)) (nomark _))
      (pe_and (pe_cmpR op_eq (pe_fld (pv 0) rfl) (pe_fld (pv 1) rfl) (nomark _)) (pe_one (pe_d D hr pass0 (pa_cons (pe_fld (pv 0) rfl) (pa_cons (pe_fld (pv 1) rfl) pa_nil))))))))), ?_⟩
  obtain ⟨a, b, rfl, ⟨c, z, ds, ra, rb, hd⟩, q⟩ := h
  obtain ⟨hc, hp, hr1⟩ := likeD_parts hd
  obtain ⟨m, rfl⟩ : ∃ m, r = m + 1 := ⟨r - 1, by omega⟩
  have pc := T.p c hc
  refine ⟨_, rfl, _, _, _, _, _, rfl, .own _, ty_of T rb (okc_of hd.ok), kit_P T (okc_of hd.ok), _, rfl, iteF ?_⟩
  refine ⟨_, rfl, _, c, z, ds, rfl, ra, hc, _, rfl, _, c, z, ds, rfl, rb, hc, rfl, _, rfl, ?_⟩
  rw [decide_eq_true (show V.bl (!den c) = V.bl (!den c) from rfl)]
  refine iteT ?_
  cases ra with
  | pap ha hw hpa hta hfa hma r1 =>
    cases rb with
    | pap hb hw2 hpb htb hfb hmb r2 =>
      refine ⟨_, rfl, _, _, _, _, _, rfl, ha, pc.cls, pc.noW, hw, _, rfl, _, _, _, _, _, rfl, hb, pc.cls, pc.noW, hw2, rfl, _, rfl, ?_⟩
      rw [decide_eq_true (show V.str z = V.str z from rfl)]
      refine iteT ?_
      refine ⟨_, rfl, _, _, _, _, _, rfl, ha, pc.cls, pc.noP, hpa, _, rfl, _, _, _, _, _, rfl, hb, pc.cls, pc.noP, hpb, ?_⟩
      exact ⟨_, _, .tup ds, rfl, .tup hta r1, .tup htb r2, hp, fun H' s' => q H' s'⟩
end
end K6
end
section -- KF8
set_option maxHeartbeats 4000000
/-! is_like. -/
namespace K6
open PySem PySem.Spec PyProof.Rows L2 NdefX
section
variable {P : Program} {w : World} {K : PySem.W.Frag} {mg : Str → Option Value} {base : Heap}
theorem sc_like : FnScope ["one", "other", "mine", "its"] ["one", "other"] (defScope (top 26)) := ⟨rfl, rfl, rfl, by decide +kernel, rfl, by decide +kernel, by decide +kernel⟩
/-- == of two papers that are alike -/
theorem rc_pap {X : Cx} (T : Txt X.w X.K X.mg) {k r : Nat} {fd : FuncData} (F : FnOk X.prog X.w X.K X.mg X.base CX0 k (He.ma X.K (ca X.K 0) "__eq__") fd ["self", "other"] (spEq (REq X.K r))) (hb : Binds X.K fd ["self", "other"] []) :
    RcG X k (fun x y H => ∃ a b, x = .ref a ∧ y = .ref b ∧ REq X.K r a b H) := by
  intro A pins s σ H x y u v sb I rx ry d
  obtain ⟨a, b, rfl, rfl, h⟩ := d
  have h0 := h
  obtain ⟨c, z, ds, ra, rb, hd⟩ := h
  have hc := (likeD_parts hd).1
  cases ra with
  | pap ha _ _ _ _ _ _ =>
    cases rb with
    | pap hb2 _ _ _ _ _ _ => exact rcG_ins (C := ca X.K c) (E := E0) F (T.p c hc).eq T.e0 hb pass0 A pins s σ H _ _ u v sb I rx ry ⟨a, b, _, _, _, _, rfl, rfl, ha, hb2, h0⟩
theorem flat_same {ca : Nat → Addr} {fl : Flds} {H : Hp} {u v : V} {d : Dat} (hp : d.pl = true) (h1 : ∀ ds, d ≠ .tup ds) (h2 : ∀ c z ds, d ≠ .pap c z ds) (a : Rp ca fl H u d) (b : Rp ca fl H v d) : u = v ∧ scal u v = true := by
  cases a with
  | non => cases b; exact ⟨rfl, rfl⟩
  | bl _ => cases hp
  | int i => cases b; exact ⟨rfl, rfl⟩
  | str z => cases b; exact ⟨rfl, rfl⟩
  | emp _ => cases hp
  | tup _ _ => exact absurd rfl (h1 _)
  | lst _ _ => cases hp
  | pap _ _ _ _ _ _ _ => exact absurd rfl (h2 _ _ _)
theorem d_like (T : Txt w K mg) (B : Bools P w K mg base) {fd fdE : FuncData} (F : FnT K "is_like" 26 fd) (FE : MtT K "Paper" "__eq__" "Paper.__eq__" 27 1 fdE) : ∀ r, Dfn P w K mg base CX0 (2 * r + 3) "is_like" ["one", "other"] (spLikeN K r) := by
  intro r
  induction r with
  | zero => exact dfn_no F (T.g _ (by decide +kernel)) (fun _ _ _ _ _ _ us hl => match us, hl with | [_, _], _ => rfl)
  | succ r D =>
    have FQ := d_eq T B FE (by omega) D
    have bQ : Binds K fdE ["self", "other"] [] := FE.bindsN fun _ _ _ _ _ _ us hl => match us, hl with | [_, _], _ => rfl
    refine dfn_mk (k := 2 * r + 3 + 2) F (T.g _ (by decide +kernel)) (fun _ _ _ _ _ _ us hl => match us, hl with | [_, _], _ => rfl) (F.ok sc_like (fun vs H Q E h => by obtain ⟨u, v, d, rfl, _⟩ := h; rfl) fun cdv A outer s H vs Q E hr h => ?_)
    have mI := T.z "isinstance" (by decide +kernel)
    have mB := T.z "bool" (by decide +kernel)
    have mT := T.z "tuple" (by decide +kernel)
    have mL := T.z "len" (by decide +kernel)
    have mA := T.z "all" (by decide +kernel)
    have mZ := T.z "zip" (by decide +kernel)
    refine ⟨_, PSs.nox (pss_cons (ps_if (PW.pt (pw_and (pt_val (pe_callB call_isi rfl mI (by decide +kernel) (pa_cons (pv 0) (pa_cons (pe_ty "tuple" mT) pa_nil)))) (pw_and1 (pt_val (pe_callB call_isi rfl mI (by decide +kernel) (pa_cons (pv 1) (pa_cons (pe_ty "tuple" mT) pa_nil)))))))
        (pss_one (ps_ret (pe_and (pe_cmpR op_eq (pe_callB call_len_seq rfl mL PySem.boot_len (pa_cons (pv 0) pa_nil)) (pe_callB call_len_seq rfl mL PySem.boot_len (pa_cons (pv 1) pa_nil)) (nomark _))
          (pe_one (pe_callB (cr_all rfl) rfl mA (by decide +kernel) (pa_cons (pe_lc (own := [("mine", 2), ("its", 3)]) (g := gTup K 2 (gCons (gName 2) (gCons (gName 3) gNil))) (tt := tYes) rfl sc_like.nd (RZ.pi_zipA rfl mZ (pa_cons (pv 0) (pa_cons (pv 1) pa_nil)))
            (blkOk_by (own := [("mine", 2), ("its", 3)]) (N := ["one", "other", "mine", "its"]) (sc := defScope (top 26)) (by decide +kernel))
            (fun _ _ _ _ _ => pg_tup rfl (pgs_cons (pg_name (i := 2) sc_like.nd rfl (Or.inl rfl)) (pgs_cons (pg_name (i := 3) sc_like.nd rfl (Or.inl rfl)) pgs_nil))) (fun _ _ _ _ _ => pts_nil) (fun _ _ _ _ _ => pe_d D (hr.mono (by omega)) pass0 (pa_cons (pv 2) (pa_cons (pv 3) pa_nil)))) pa_nil)))))) pss_nil)
      (pss_cons (ps_if (PW.pt (pw_or (pt_val (pe_callB call_isi rfl mI (by decide +kernel) (pa_cons (pv 0) (pa_cons (pe_ty "bool" mB) pa_nil)))) (pw_or1 (pt_val (pe_callB call_isi rfl mI (by decide +kernel) (pa_cons (pv 1) (pa_cons (pe_ty "bool" mB) pa_nil)))))))
        (pss_one (ps_ret (pe_and (pe_callB call_isi rfl mI (by decide +kernel) (pa_cons (pv 0) (pa_cons (pe_ty "bool" mB) pa_nil))) (pe_and (pe_callB call_isi rfl mI (by decide +kernel) (pa_cons (pv 1) (pa_cons (pe_ty "bool" mB) pa_nil))) (pe_one (pe_cmpR op_eq (pv 0) (pv 1) (nomark _))))))) pss_nil)
      (pss_one (ps_ret (pe_callTy call_bool1 rfl mB (by decide +kernel) (pa_cons (pe_cmpR (op_or op_eq (op_eqG (rc_pap (X := (cxOf CX0 P w K mg base ["one", "other", "mine", "its"] "is_like" (defScope (top 26)) (He.ga K "is_like") cdv A outer s H E).nox) T FQ bQ) hr)) (pv 0) (pv 1) (nomark _)) pa_nil)))))), ?_⟩
    obtain ⟨u, v, d, rfl, ru, rv, hd, q⟩ := h
    have hc := okc_of hd.ok
    refine ⟨_, rfl, _, _, _, _, _, rfl, .ty _, ty_of T ru hc, kit_B T hc (by simp), _, rfl, ?_⟩
    by_cases ht : ∃ ds, d = .tup ds
    · obtain ⟨ds, rfl⟩ := ht
      refine iteT ⟨_, rfl, _, _, _, _, _, rfl, .ty _, ty_of T rv hc, kit_B T hc (by simp), _, rfl, iteT ?_⟩
      cases ru with
      | tup hu1 r1 =>
        cases rv with
        | tup hv1 r2 =>
          rename_i a vs b ws
          have hl : vs.length = ws.length := by rw [r1.len, r2.len]
          refine ⟨_, rfl, _, _, rfl, .inr (SqT.of hu1), _, rfl, _, _, rfl, .inr (SqT.of hv1), rfl, _, rfl, ?_⟩
          rw [decide_eq_true (show V.int (vs.length : Int) = V.int (ws.length : Int) by rw [hl])]
          refine iteT ?_
          have h3 : 4 + szS ds ≤ sizeLine := hd.sz
          have hlen : vs.length ≤ sizeLine := by
            rw [r1.len]
            exact Nat.le_trans (sz_len ds) (by omega)
          refine ⟨_, rfl, _, rfl, a, b, vs, ws, rfl, .inr ⟨SqT.of hu1, SqT.of hv1, fun D2 hD => lc_all (walk_zipT hl) hD (fun i v _ => v = .bl true) (fun _ _ _ _ _ h => h) (fun _ _ _ _ _ h _ => h) (fun H' s' => ⟨SqT.of (s' _ _ hu1), SqT.of (s' _ _ hv1)⟩) hlen (fun i x H2 H3 hi s2 y Q2 k => ?_) fun H2 acc ha hr2 hD2 s2 => ?_⟩⟩
          · obtain ⟨Tt, x1, y1, rfl, nT, rfl, hx, hy⟩ := y
            obtain ⟨d1, hd1, e1⟩ := r1.at hx
            obtain ⟨d2, hd2, e2⟩ := r2.at hy
            obtain rfl : d1 = d2 := Option.some.inj (hd1.symm.trans hd2)
            obtain ⟨li, hr1⟩ := likeD_item hd hd1
            obtain ⟨m, rfl⟩ : ∃ m, r = m + 1 := by
              have rk : 2 * (depS ds + 1) ≤ r := hd.rk
              exact ⟨r - 1, by omega⟩
            have s3 : Same H (upd H2 Tt (.tup [x1, y1])) := s2.trans (Same.new nT)
            refine ⟨Tt, _, rfl, SqT.of upd_same, rfl, _, _, rfl, _, _, rfl, rfl, rfl, ?_⟩
            exact ⟨_, rfl, _, rfl, _, _, d1, rfl, e1.mono s3, e2.mono s3, li, fun H' s' => k _ _ ((Same.new nT).trans s') rfl⟩
          · refine ⟨D2, List.replicate vs.length true, rfl, .inl (.inl ?_), ?_⟩
            · rw [hD2, List.map_replicate]
              congr 2
              refine List.eq_replicate_iff.mpr ⟨ha, fun v hv => ?_⟩
              obtain ⟨i, hi, e⟩ := List.mem_iff_getElem.mp hv
              exact hr2 i v (by rw [List.getElem?_eq_getElem hi, e])
            · have e : (List.replicate vs.length true).all id = true := by
                rw [List.all_eq_true]
                intro x hx
                exact (List.eq_of_mem_replicate hx)
              rw [e]
              exact q H2 s2
    · have ne : ∀ ds, d ≠ .tup ds := fun ds e => ht ⟨ds, e⟩
      have f1 : isB "tuple" d = false := by
        cases d <;> first | rfl | exact absurd rfl (ne _)
      have f2 : isB "bool" d = false := by
        have hp := hd.pl
        cases d <;> first | rfl | cases hp
      rw [f1]
      refine iteF (iteF ?_)
      refine ⟨_, rfl, _, _, _, _, _, rfl, .ty _, ty_of T ru hc, kit_B T hc (by simp), _, rfl, ?_⟩
      rw [f2]
      refine iteF ⟨_, rfl, _, _, _, _, _, rfl, .ty _, ty_of T rv hc, kit_B T hc (by simp), _, rfl, ?_⟩
      rw [f2]
      refine iteF ?_
      by_cases hP : ∃ c z ds, d = .pap c z ds
      · obtain ⟨c, z, ds, rfl⟩ := hP
        obtain ⟨a, rfl⟩ : ∃ a, u = .ref a := by cases ru; exact ⟨_, rfl⟩
        obtain ⟨b, rfl⟩ : ∃ b, v = .ref b := by cases rv; exact ⟨_, rfl⟩
        exact ⟨_, rfl, _, rfl, .inr ⟨⟨a, b, rfl, rfl, c, z, ds, ru, rv, hd⟩, fun H' e => .inr ⟨true, rfl, q H' e⟩⟩⟩
      · obtain ⟨rfl, hs⟩ := flat_same hd.pl ne (fun c z ds e => hP ⟨c, z, ds, e⟩) ru rv
        refine ⟨_, rfl, _, rfl, .inl ⟨hs, .inr ⟨_, rfl, ?_⟩⟩⟩
        rw [decide_eq_true rfl]
        exact q H (Same.refl H)
end
end K6
end
section -- KDig
set_option maxHeartbeats 4000000
/-! Numbers of up to 4300 figures: int(text), str(number); text * number. -/
namespace PySem.W
open PySem PySem.Calls PySem.NumText PyProof.Rows
namespace KIN
theorem wp_textL {M : Model} {A : Around} {E : Value → Shared → Prop} {s : Shared} {Q : Value → Shared → Prop} {v : Value} {text : List Nat} {n : Int} (hnd : s.heap.NoDigits)
    (hs : ¬ (text.takeWhile (· != 0)).length ≤ 640) (hr : (int_private% "readNumeral") 4300 10 (text.takeWhile (· != 0)) = (int_private% "Numeral.value") n)
    (ha : ((text.takeWhile (· != 0)).length == text.length) = true) (h : Q (.int n s.toks) { s with toks := s.toks + 1 }) :
    wpAny M A ((int_private% "intFromText") v text 10) Q E s := by
  obtain ⟨mc, hns, hnone⟩ := hnd
  show wpAny M A (do
    let limit ← if (text.takeWhile (· != 0)).length ≤ 640 then pure 0 else Builtin.intMaxStrDigits
    _) Q E s
  rw [if_neg hs]
  unfold Builtin.intMaxStrDigits
  refine wpAny_bind (wpAny_bind (wpAny_nsGet hns ?_))
  rw [hnone]
  refine wpAny_pure ?_
  dsimp only
  rw [hr]
  dsimp only
  rw [if_pos ha]
  obtain ⟨hp, g, d, tk, os⟩ := s
  repeat (any_goals (first | assumption | wp_step))
structure HidL (p : Prop) : Prop where
  out : p
theorem meets_textL {x : PySem.Str} {u : Tok} {n : Int} (hx : x.length ≤ sizeLine) (hl : ¬ (numSeenOf x).length ≤ 640) (hn : PySem.intText? x = some n) :
    Meets (Builtin.«int.__new__» ⟨[.type "int", .str x u], []⟩) (fun _ R s => s.heap.NoDigits ∧ R (.ok (.ret (.int n s.toks))) { s with toks := s.toks + 1 }) :=
  Meets.of_wp fun prog w A R s hs => by
    obtain ⟨hnd, h⟩ := hs
    obtain ⟨hp, g, d, tk, os⟩ := s
    have f1 := F.conv_sub_int
    have f2 := F.madeHere_int
    have f3 := str_int
    have f4 := str_idx
    have f5 := str_trunc
    have f6 : typeOf (.str x u) = pure (.type "str") := rfl
    have hr : (int_private% "readNumeral") 4300 10 (numSeenOf x) = (int_private% "Numeral.value") n ∧ ((numSeenOf x).length == (numTextOf x).length) = true := by
      rcases read4300 x hx with ⟨m, h1, h2, h3⟩ | ⟨h1, _⟩
      · rw [hn] at h1
        injection h1 with h1
        subst h1
        exact ⟨h3, h2⟩
      · rw [hn] at h1
        cases h1
    have hk := HidL.mk (And.intro hl hr)
    clear hl hr hn hx
    repeat (any_goals (first
      | assumption
      | ((with_reducible show wpAny _ _ ((int_private% "intFromText") _ _ _) _ _ _); refine wp_textL hnd hk.out.1 hk.out.2.1 hk.out.2.2 ?_)
      | wp_step))
    all_goals first | exact ⟨_, rfl, h⟩ | skip
section
variable {prog : Program} {w : World} {A : Around} {E : Value → Shared → Prop} {s : Shared} {Q : Value → Shared → Prop} {x : PySem.Str} {t : Tok} {n : Int}
theorem call_textL (hnd : s.heap.NoDigits) (hn : PySem.intText? x = some n) (hx : x.length ≤ sizeLine) (ha : x.cps.all (· < 128) = true) (h : Q (.int n s.toks) { s with toks := s.toks + 1 }) : wpAny (model prog w) A (call (.type "int") [.str x t]) Q E s := by
  by_cases hl : x.length ≤ 640
  · exact call_text hn hl h
  · refine call_int_1 (meets_textL hx (fun z => hl ?_) hn) ⟨hnd, rfl, h⟩
    have e1 : numTextOf x = x.cps.toList := if_pos ha
    have e2 : ((numSeenOf x).length == (numTextOf x).length) = true := by
      by_cases z : ((numSeenOf x).length == (numTextOf x).length) = true
      · exact z
      · unfold PySem.intText? at hn
        rw [if_neg z] at hn
        cases hn
    have e3 : (numSeenOf x).length = x.cps.toList.length := by
      rw [← e1]
      exact beq_iff_eq.mp e2
    have e4 : x.length = x.cps.toList.length := by simp [PySem.Str.length]
    rw [e4, ← e3]
    exact z
end
end KIN
end PySem.W
namespace K6
open PySem PySem.Spec PyProof.Rows L2
/-- no limit of figures was set -/
def NoDig (K : PySem.W.Frag) : Prop := PySem.W.nsIn K cStatics "sys.int_max_str_digits" = some none
section
variable {X : Cx} {pins : List (Addr × Obj)} {σ : L2.St} {H : Hp} {s : Shared}
theorem Inv.nodig (I : Inv X pins σ H s) (hd : NoDig X.K) : s.heap.NoDigits := by
  obtain ⟨mc, hns, _⟩ := I.nolimit
  exact ⟨mc, hns, PySem.W.ns_none_of I.kIn hns hd⟩
theorem call_int_strL (hd : NoDig X.K) : CallR X (.type "int") (fun xs H Q => ∃ a n, xs = [.str a] ∧ PySem.intText? a = some n ∧ a.length ≤ sizeLine ∧ a.cps.all (· < 128) = true ∧ Q (.int n) H) := by
  intro pins s σ H xs us Q I rs h
  obtain ⟨a, n, rfl, hn, hl, ha, h⟩ := h
  cases rs with
  | cons r1 rs =>
    cases rs
    obtain ⟨t, rfl⟩ := r1
    exact PySem.W.KIN.call_textL (Inv.nodig I hd) hn hl ha ⟨.int n, H, I.tok _, ⟨_, rfl⟩, h⟩
theorem call_str_intL (hc : X.calm = true) (hd : NoDig X.K) : CallR X (.type "str") (fun xs H Q => ∃ i, xs = [.int i] ∧ i.natAbs < 10 ^ 4300 ∧ Q (.str (toString i)) H) := by
  intro pins s σ H xs us Q I r h
  obtain ⟨i, rfl, hz, q⟩ := h
  cases r with
  | cons r1 rs =>
    cases rs
    obtain ⟨t, rfl⟩ := r1
    refine PyProof.Rows.str_of_int_or (I.ok.hd hc) (Inv.nodig I hd) (fun _ => ⟨.str _, H, I.tok _, ⟨_, rfl⟩, q⟩) fun hge => ?_
    exact absurd hge (Nat.not_le.mpr hz)
/-- z repeated -/
def repS (z : Str) (k : Nat) : Str := ⟨(List.replicate k z.cps).foldl (· ++ ·) #[]⟩
theorem repS_one (z : Str) : repS z 1 = z := by
  unfold repS
  show (⟨#[] ++ z.cps⟩ : Str) = z
  rw [Array.empty_append]
/-- z * k -/
theorem op_mul_str : OpR X (binaryOp .Mult) (fun x y H Q => ∃ z k, x = .str z ∧ y = .int k ∧ 0 ≤ k ∧ 0 < z.length ∧ z.length * k.toNat ≤ sizeLine ∧ Q (.str (repS z k.toNat)) H) := by
  intro pins s σ H x y v u Q I rx ry h
  obtain ⟨z, k, rfl, rfl, h0, hz, hl, q⟩ := h
  obtain ⟨t, rfl⟩ := rx
  obtain ⟨t', rfl⟩ := ry
  have sl : sizeLine = 16777216 := sizeLine_eq
  have hk : k.toNat ≤ 16777216 := by
    have : k.toNat ≤ z.length * k.toNat := Nat.le_mul_of_pos_left _ hz
    omega
  have hk2 : k ≤ 16777216 := by omega
  refine PySem.P.mul_str (by
    rw [decide_eq_false (by omega), decide_eq_false (by omega)]
    rfl) (fun h1 h2 => ?_) (fun h1 h2 => ?_) ?_
  · have hz2 : z.length ≤ 16777216 := by
      have : z.length * 1 ≤ z.length * k.toNat := Nat.mul_le_mul_left _ (by omega)
      omega
    have g : (2 ^ 63 - 1 : Int) / k ≥ (2 ^ 63 - 1) / 16777216 := by
      apply Int.le_ediv_of_mul_le (by omega)
      have : ((2 ^ 63 - 1 : Int) / 16777216) * k ≤ ((2 ^ 63 - 1) / 16777216) * 16777216 := Int.mul_le_mul_of_nonneg_left hk2 (by decide)
      omega
    have g2 : ((2 ^ 63 - 1 : Int) / 16777216) = 549755813887 := by decide
    omega
  · have : ¬ z.length * k.toNat > sizeLine := by omega
    exact decide_eq_false this
  · by_cases h1 : k < 1
    · rw [if_pos h1]
      have e : k = 0 := by omega
      subst e
      exact ⟨by decide, .str Str.empty, H, I.tok _, ⟨_, rfl⟩, q⟩
    · rw [if_neg h1]
      by_cases h2 : (k == 1 || z.length == 0) = true
      · rw [if_pos h2]
        have e : k = 1 := by
          simp only [Bool.or_eq_true, beq_iff_eq] at h2
          omega
        subst e
        refine ⟨.str z, H, I, ⟨_, rfl⟩, ?_⟩
        have e2 : repS z (1 : Int).toNat = z := repS_one z
        rw [e2] at q
        exact q
      · rw [if_neg h2]
        exact ⟨fits_reps (decide_eq_false (show ¬ z.length * k.toNat > sizeLine by omega)), .str _, H, I.tok _, ⟨_, rfl⟩, q⟩
end
end K6
end
section -- KF9
set_option maxHeartbeats 4000000
/-! has_text. -/
namespace K6
open PySem PySem.Spec PyProof.Rows L2 NdefX
/-! ### written numbers of one figure after another -/
theorem repS_tl (z : Str) : ∀ k, (repS z k).cps.toList = (List.replicate k z.cps.toList).flatten := by
  intro k
  unfold repS
  show ((List.replicate k z.cps).foldl (· ++ ·) #[]).toList = _
  have g : ∀ (l : List (Array Nat)) (a : Array Nat), (l.foldl (· ++ ·) a).toList = a.toList ++ (l.map Array.toList).flatten := by
    intro l
    induction l with
    | nil => intro a; simp
    | cons x l ih => intro a; rw [List.foldl_cons, ih]; simp
  rw [g, List.map_replicate]
  rfl
theorem rep1_tl {z : Str} {c : Nat} (h : z.cps.toList = [c]) (k : Nat) : (repS z k).cps.toList = List.replicate k c := by
  rw [repS_tl, h]
  induction k with
  | zero => rfl
  | succ k ih => rw [List.replicate_succ, List.flatten_cons, ih, List.replicate_succ]; rfl
theorem val_fold (l : List Nat) (a : Nat) : l.foldl (fun acc c => acc * 10 + (c - 48)) a = a * 10 ^ l.length + NumText.digitsVal l := by
  unfold NumText.digitsVal
  induction l generalizing a with
  | nil => simp
  | cons c l ih =>
    rw [List.foldl_cons, ih, List.foldl_cons, ih (0 * 10 + (c - 48)), List.length_cons, Nat.pow_succ]
    rw [Nat.add_mul, Nat.zero_mul, Nat.zero_add, Nat.mul_assoc, Nat.mul_comm 10 (10 ^ l.length)]
    omega
theorem val_cons (c : Nat) (l : List Nat) : NumText.digitsVal (c :: l) = (c - 48) * 10 ^ l.length + NumText.digitsVal l := by
  have e := val_fold l (c - 48)
  have e2 : NumText.digitsVal (c :: l) = l.foldl (fun acc c => acc * 10 + (c - 48)) (c - 48) := by
    unfold NumText.digitsVal
    rw [List.foldl_cons, Nat.zero_mul, Nat.zero_add]
  rw [e2, e]
theorem val_nines (k : Nat) : NumText.digitsVal (List.replicate k 57) + 1 = 10 ^ k := by
  induction k with
  | zero => rfl
  | succ k ih =>
    rw [List.replicate_succ, val_cons, List.length_replicate, Nat.pow_succ]
    omega
theorem val_zeros (k : Nat) : NumText.digitsVal (List.replicate k 48) = 0 := by
  induction k with
  | zero => rfl
  | succ k ih =>
    rw [List.replicate_succ, val_cons, ih]
    simp
theorem all_rep {k c : Nat} (h : 48 ≤ c ∧ c ≤ 57) : NumText.AllDigits (List.replicate k c) := fun d hd => by
  rw [List.eq_of_mem_replicate hd]
  exact h
theorem nines {k : Nat} (h0 : 0 < k) (h : k ≤ 4300) : PySem.intText? (repS "9" k) = some (((10 ^ k : Nat) : Int) - 1) := by
  have e : (repS "9" k).cps.toList = List.replicate k 57 := rep1_tl rfl k
  have hl : (repS "9" k).length = k := by
    have : (repS "9" k).length = (repS "9" k).cps.toList.length := by simp [PySem.Str.length]
    rw [this, e, List.length_replicate]
  rw [PySem.intText_digits (by rw [e]; exact all_rep (by decide)) (by rw [e]; intro z; have := congrArg List.length z; rw [List.length_replicate] at this; simp at this; omega) (by rw [hl]; exact h), e]
  have := val_nines k
  congr 1
  omega
def maxI : Int := ((10 ^ 4000 : Nat) : Int) - 1
/-- what has a text, by depth -/
def hasFlat : Dat → Bool
  | .non => true
  | .str z => isNm z
  | .int i => decide ((i.natAbs : Int) ≤ maxI)
  | _ => false
def hasText : Nat → Dat → Bool
  | n + 1, .pap _ z ds => decide (counts.lookup z = some ds.length) && ds.all (hasText n)
  | n + 1, .tup ds => ds.all (hasText n)
  | _, d => hasFlat d
section
variable {P : Program} {w : World} {K : PySem.W.Frag} {mg : Str → Option Value} {base : Heap}
def spHas (K : PySem.W.Frag) (n : Nat) : Sp := fun vs H Q _ => ∃ v d, vs = [v, .int (n : Int)] ∧ RpK K H v d ∧ d.ok = true ∧ d.sz ≤ sizeLine ∧ ∀ H', Same H H' → Q (.bl (hasText n d)) H'
def spHasN (K : PySem.W.Frag) : Nat → Sp
  | 0 => fun _ _ _ _ => False
  | n + 1 => spHas K n
theorem sc_has : FnScope ["value", "deep", "one"] ["value", "deep"] (defScope (top 79)) := ⟨rfl, rfl, rfl, by decide +kernel, rfl, by decide +kernel, by decide +kernel⟩
theorem all_bl {ds : List Dat} {acc : List V} {f : Dat → Bool} (hl : acc.length = ds.length) (h : ∀ (i : Nat) (v : V), acc[i]? = some v → ∃ d, ds[i]? = some d ∧ v = .bl (f d)) : acc = (ds.map f).map V.bl := by
  rw [List.map_map]
  exact acc_map (f := V.bl ∘ f) hl h
theorem hasFlat_of {n : Nat} {d : Dat} (h1 : ∀ ds, d ≠ .tup ds) (h2 : ∀ c z ds, d ≠ .pap c z ds) : hasText n d = hasFlat d := by
  cases n with
  | zero => rfl
  | succ n =>
    cases d with
    | tup ds => exact absurd rfl (h1 ds)
    | pap c z ds => exact absurd rfl (h2 c z ds)
    | _ => rfl
theorem d_has (T : Txt w K mg) {fd fd1 fd2 fd3 : FuncData} (F : FnT K "has_text" 79 fd) (F1 : FnT K "is_integer" 4 fd1) (F2 : FnT K "is_name" 5 fd2) (F3 : FnT K "parts_count" 72 fd3) : ∀ n, Dfn P w K mg base CX0 (n + 1) "has_text" ["value", "deep"] (spHasN K n) := by
  intro n
  induction n with
  | zero => exact dfn_no F (T.g _ (by decide +kernel)) (fun _ _ _ _ _ _ us hl => match us, hl with | [_, _], _ => rfl)
  | succ n D =>
    have D1 := (d_isInt (P := P) (base := base) T F1).mono (k' := n + 1) (by omega)
    have D2 := (d_isName (P := P) (base := base) T F2).mono (k' := n + 1) (by omega)
    have D3 := (d_count (P := P) (base := base) T F3).mono (k' := n + 1) (by omega)
    refine dfn_mk F (T.g _ (by decide +kernel)) (fun _ _ _ _ _ _ us hl => match us, hl with | [_, _], _ => rfl) (F.ok sc_has (fun vs H Q E h => by obtain ⟨v, d, rfl, _⟩ := h; rfl) fun cdv A outer s H vs Q E hr h => ?_)
    have mI := T.z "isinstance" (by decide +kernel)
    have mT := T.z "tuple" (by decide +kernel)
    have mL := T.z "len" (by decide +kernel)
    have mA := T.z "all" (by decide +kernel)
    have mB := T.z "abs" (by decide +kernel)
    have mN := T.z "int" (by decide +kernel)
    have gP := T.g "Paper" (by decide +kernel)
    obtain ⟨L, hL, t1, g1⟩ : ∃ L : Int, L ≤ maxI ∧ ∃ t, mg "LITTLE" = some (.int L t) := ⟨10 ^ 60, by decide +kernel, T.i "LITTLE" (10 ^ 60) (by decide +kernel)⟩
    obtain ⟨t2, g2⟩ := T.i "MOST_FIGURES" 4000 (by decide +kernel)
    have LC : ∀ {iter : Expr} {wi : TI} {scope : Scope} {pos : Pos}, True := fun {_ _ _ _} => trivial
    refine ⟨_, PSs.nox (pss_cons (ps_if (PW.pt (pw_or (pt_cmpR op_isN (pv 0) pe_non (nomark _)) (pw_or1 (pt_val (pe_d D2 hr pass0 (pa_cons (pv 0) pa_nil)))))) (pss_one (ps_ret pe_bl)) pss_nil)
      (pss_cons (ps_if (pt_val (pe_d D1 hr pass0 (pa_cons (pv 0) pa_nil)))
        (pss_one (ps_ret (pe_or (pe_cmpR op_lt (pe_callB call_abs rfl mB (by decide +kernel) (pa_cons (pv 0) pa_nil)) (pe_gi g1) (nomark _)) (pe_one (pe_cmpR op_le (pe_callB call_abs rfl mB (by decide +kernel) (pa_cons (pv 0) pa_nil)) (pe_callTy (call_int_strL T.dg) rfl mN (by decide +kernel) (pa_cons (pe_op op_mul_str pe_str (pe_gi g2)) pa_nil)) (nomark _)))))) pss_nil)
      (pss_cons (ps_if (pt_cmpR op_eq (pv 1) pe_int (nomark _)) (pss_one (ps_ret pe_bl)) pss_nil)
      (pss_cons (ps_if (pt_val (pe_callB call_isi rfl mI (by decide +kernel) (pa_cons (pv 0) (pa_cons (pe_go gP) pa_nil))))
        (pss_one (ps_ret (pe_and (pe_cmpR op_eq (pe_d D3 hr pass0 (pa_cons (pe_fld (pv 0) rfl) pa_nil)) (pe_callB call_len_seq rfl mL PySem.boot_len (pa_cons (pe_fld (pv 0) rfl) pa_nil)) (nomark _))
          (pe_one (pe_callB (cr_all rfl) rfl mA (by decide +kernel) (pa_cons (pe_lc (own := [("one", 2)]) (g := gName 2) (tt := tYes) rfl sc_has.nd (pi_tup (pe_fld (pv 0) rfl)) (blkOk_by (own := [("one", 2)]) (N := ["value", "deep", "one"]) (sc := defScope (top 79)) (by decide +kernel))
            (fun _ _ _ _ _ => pg_name (i := 2) sc_has.nd rfl (Or.inl rfl)) (fun _ _ _ _ _ => pts_nil) (fun _ _ _ _ _ => pe_d D hr pass0 (pa_cons (pv 2) (pa_cons (pe_op op_sub (pv 1) pe_int) pa_nil)))) pa_nil)))))) pss_nil)
      (pss_one (ps_ret (pe_and (pe_callB call_isi rfl mI (by decide +kernel) (pa_cons (pv 0) (pa_cons (pe_ty "tuple" mT) pa_nil)))
          (pe_one (pe_callB (cr_all rfl) rfl mA (by decide +kernel) (pa_cons (pe_lc (own := [("one", 2)]) (g := gName 2) (tt := tYes) rfl sc_has.nd (pi_tup (pv 0)) (blkOk_by (own := [("one", 2)]) (N := ["value", "deep", "one"]) (sc := defScope (top 79)) (by decide +kernel))
            (fun _ _ _ _ _ => pg_name (i := 2) sc_has.nd rfl (Or.inl rfl)) (fun _ _ _ _ _ => pts_nil) (fun _ _ _ _ _ => pe_d D hr pass0 (pa_cons (pv 2) (pa_cons (pe_op op_sub (pv 1) pe_int) pa_nil)))) pa_nil)))))))))), ?_⟩
    obtain ⟨v, d, rfl, r, ho, hz, q⟩ := h
    have hc := okc_of ho
    refine ⟨_, rfl, rfl, _, rfl, ?_⟩
    by_cases hn : d = .non
    · subst hn
      cases r
      have e : hasText n .non = true := hasFlat_of (by intro ds z; cases z) (by intro c y ds z; cases z)
      rw [e] at q
      exact iteT (iteT (q H (Same.refl H)))
    have vn : v ≠ .non := by
      intro z
      subst z
      cases r
      exact hn rfl
    rw [decide_eq_false vn]
    refine iteF ⟨_, rfl, v, d, rfl, r, hc, fun z e => ?_, fun H1 s1 => ⟨_, rfl, ?_⟩⟩
    · rw [e] at hz
      have hz : z.length + 1 ≤ sizeLine := hz
      omega
    have r1 := r.mono s1
    by_cases hm : isName d = true
    · have e : hasText n d = true := by
        cases d with
        | str z => exact (hasFlat_of (by intro ds z; cases z) (by intro c y ds z; cases z)).trans hm
        | _ => cases hm
      rw [hm]
      rw [e] at q
      exact iteT (q H1 s1)
    have hm := Bool.not_eq_true _ ▸ hm
    rw [hm]
    refine iteF ⟨_, rfl, v, d, rfl, r1, hc, _, rfl, ?_⟩
    by_cases hi : ∃ i, d = .int i
    · obtain ⟨i, rfl⟩ := hi
      cases r
      have e : hasText n (.int i) = decide ((i.natAbs : Int) ≤ maxI) := hasFlat_of (by intro ds z; cases z) (by intro c y ds z; cases z)
      rw [e] at q
      have ab : (if i < 0 then -i else i) = (i.natAbs : Int) := by
        by_cases h0 : i < 0
        · rw [if_pos h0]; omega
        · rw [if_neg h0]; omega
      refine iteT ⟨_, rfl, i, rfl, ?_⟩
      rw [ab]
      have e9 := nines (k := 4000) (by decide) (by decide)
      have l9 : (repS "9" 4000).cps.toList = List.replicate 4000 57 := rep1_tl rfl 4000
      have e9 : PySem.intText? (repS "9" 4000) = some maxI := e9
      generalize maxI = M at q hL e9
      refine ⟨_, _, rfl, rfl, _, rfl, ?_⟩
      by_cases hl : (i.natAbs : Int) < L
      · rw [decide_eq_true hl]
        rw [decide_eq_true (show (i.natAbs : Int) ≤ M by omega)] at q
        exact iteT (q H1 s1)
      · rw [decide_eq_false hl]
        refine iteF ⟨_, rfl, i, rfl, ?_⟩
        rw [ab]
        have z9 : (repS "9" 4000).length = 4000 := by
          have e : (repS "9" 4000).length = (repS "9" 4000).cps.toList.length := by simp [PySem.Str.length]
          rw [e, l9, List.length_replicate]
        have a9 : (repS "9" 4000).cps.all (· < 128) = true := by
          rw [← Array.all_toList, l9]
          exact List.all_eq_true.mpr fun x hx => by rw [List.eq_of_mem_replicate hx]; rfl
        refine ⟨"9", 4000, rfl, rfl, by decide, by decide, by decide, ?_⟩
        show ∃ a n, [V.str (repS "9" 4000)] = [V.str a] ∧ _
        generalize repS "9" 4000 = y at e9 z9 a9
        exact ⟨y, M, rfl, e9, by rw [z9]; decide, a9, _, _, rfl, rfl, q H1 s1⟩
    have ni : isInt d = false := by
      cases d with
      | int i => exact absurd ⟨i, rfl⟩ hi
      | _ => rfl
    rw [ni]
    refine iteF ⟨_, rfl, rfl, _, rfl, ?_⟩
    cases n with
    | zero =>
      have e : hasText 0 d = false := by
        show hasFlat d = false
        cases d with
        | non => exact absurd rfl hn
        | int i => exact absurd ⟨i, rfl⟩ hi
        | str z => exact hm
        | _ => rfl
      rw [e] at q
      rw [decide_eq_true (show V.int ((0 : Nat) : Int) = V.int 0 from rfl)]
      exact iteT (q H1 s1)
    | succ m =>
      rw [decide_eq_false (show ¬ V.int ((m + 1 : Nat) : Int) = V.int 0 from fun z => by
        have z2 := V.int.inj z
        omega)]
      refine iteF ⟨_, rfl, _, _, _, _, _, rfl, .own _, ty_of T r1 hc, kit_P T hc, _, rfl, ?_⟩
      have sub1 : ((m + 1 : Nat) : Int) - 1 = (m : Int) := by omega
      have step : ∀ (vs : List V) (ds : List Dat), RpsK K H1 vs ds → okS ds = true → szS ds ≤ sizeLine → ∀ (i : Nat) (x : V) (H2 H3 : Hp), i < vs.length → Same H1 H2 → YAt vs i H2 x H3 → ∀ Q2 : VK, (∀ y H4, Same H2 H4 → (∃ d : Dat, ds[i]? = some d ∧ y = .bl (hasText m d)) → Q2 y H4) →
          gName 2 x (wipe (L2.start ["value", "deep", "one"] [v, .int ((m + 1 : Nat) : Int)]) [2]) H3 fun σ2 H5 => wipe σ2 [2] = wipe (L2.start ["value", "deep", "one"] [v, .int ((m + 1 : Nat) : Int)]) [2] ∧ tCall (spHasN K (m + 1)) [] E0 (tCons (tVar 2) (tCons (tOp (rI0 fun i j => .int (i - j)) (tVar 1) (tC (.int 1))) tNil)) σ2 H5 Q2 := by
        intro vs ds rs os zs i x H2 H3 hi s2 y Q2 k
        obtain ⟨rfl, hx⟩ := y
        obtain ⟨d2, hd2, r2⟩ := rs.at hx
        refine ⟨rfl, _, rfl, _, rfl, _, _, rfl, rfl, ?_⟩
        exact ⟨x, d2, (show [x, V.int (((m + 1 : Nat) : Int) - 1)] = [x, V.int (m : Int)] by rw [sub1]), r2.mono s2, okS_at os hd2, Nat.le_trans (sz_at hd2) zs, fun H4 s4 => k _ _ s4 ⟨d2, hd2, rfl⟩⟩
      by_cases hP : ∃ c z ds, d = .pap c z ds
      · obtain ⟨c, z, ds, rfl⟩ := hP
        have ho : (decide (c < 24) && (nlS ds && okS ds)) = true := ho
        rw [Bool.and_eq_true, Bool.and_eq_true] at ho
        have hz : 5 + z.length + szS ds ≤ sizeLine := hz
        have pc := T.p c (of_decide_eq_true ho.1)
        have e : hasText (m + 1) (.pap c z ds) = (decide (counts.lookup z = some ds.length) && ds.all (hasText m)) := rfl
        rw [e] at q
        cases r1 with
        | pap ha hw hp ht hf hm2 rs =>
          rename_i a dx t fs vs
          refine iteT ⟨_, rfl, _, _, _, _, _, rfl, ha, pc.cls, pc.noW, hw, _, .str z, rfl, .str z, rfl, _, rfl, _, _, _, _, _, rfl, ha, pc.cls, pc.noP, hp, _, _, rfl, .inr (SqT.of ht), ?_⟩
          have hl := rs.len
          have key : scal (optV (pcnt (.str z))) (.int (vs.length : Int)) = true ∧ decide (optV (pcnt (.str z)) = .int (vs.length : Int)) = decide (counts.lookup z = some ds.length) := by
            show scal (optV (counts.lookup z)) _ = true ∧ decide (optV (counts.lookup z) = _) = _
            cases counts.lookup z with
            | none => exact ⟨rfl, by rw [decide_eq_false (by intro z; cases z), decide_eq_false (by intro z; cases z)]⟩
            | some k =>
              refine ⟨rfl, ?_⟩
              rw [hl]
              by_cases hk : k = ds.length
              · rw [hk, decide_eq_true (show optV (some ds.length) = V.int (ds.length : Int) from rfl), decide_eq_true (show some ds.length = some ds.length from rfl)]
              · rw [decide_eq_false (show ¬ optV (some k) = V.int (ds.length : Int) from fun z => hk (by have := V.int.inj z; omega)), decide_eq_false (show ¬ some k = some ds.length from fun z => hk (Option.some.inj z))]
          refine ⟨key.1, _, rfl, ?_⟩
          rw [key.2]
          cases hb : decide (counts.lookup z = some ds.length) with
          | false =>
            rw [hb, Bool.false_and] at q
            exact iteF (q H1 s1)
          | true =>
            rw [hb, Bool.true_and] at q
            refine iteT ⟨_, rfl, _, _, _, _, _, rfl, ha, pc.cls, pc.noP, hp, t, rfl, ⟨_, SqT.of ht⟩, fun D2 hD => lc_all walk_tup hD (fun i v _ => ∃ d : Dat, ds[i]? = some d ∧ v = .bl (hasText m d)) (fun _ _ _ _ _ h => h) (fun _ _ _ _ _ h _ => h) (fun H' s' => SqT.of (s' _ _ ht)) ?_ (step vs ds rs ho.2.2 (by omega)) fun H2 acc h1 h2 h3 h4 => ?_⟩
            · rw [hl]
              exact Nat.le_trans (sz_len ds) (by omega)
            · refine ⟨D2, ds.map (hasText m), rfl, .inl (.inl ?_), ?_⟩
              · rw [h3, all_bl (by rw [h1, hl]) h2]
              · rw [List.all_map]
                exact q H2 (s1.trans h4)
      · have fP : isP d = false := by
          cases d with
          | pap c z ds => exact absurd ⟨c, z, ds, rfl⟩ hP
          | _ => rfl
        rw [fP]
        refine iteF ⟨_, rfl, _, _, _, _, _, rfl, .ty _, ty_of T r1 hc, kit_B T hc (by simp), _, rfl, ?_⟩
        by_cases hT : ∃ ds, d = .tup ds
        · obtain ⟨ds, rfl⟩ := hT
          have hz : 4 + szS ds ≤ sizeLine := hz
          have e : hasText (m + 1) (.tup ds) = ds.all (hasText m) := rfl
          rw [e] at q
          cases r1 with
          | tup ht rs =>
            rename_i a vs
            have hl := rs.len
            refine iteT ⟨_, rfl, a, rfl, ⟨_, SqT.of ht⟩, fun D2 hD => lc_all walk_tup hD (fun i v _ => ∃ d : Dat, ds[i]? = some d ∧ v = .bl (hasText m d)) (fun _ _ _ _ _ h => h) (fun _ _ _ _ _ h _ => h) (fun H' s' => SqT.of (s' _ _ ht)) ?_ (step vs ds rs ho (by omega)) fun H2 acc h1 h2 h3 h4 => ?_⟩
            · rw [hl]
              exact Nat.le_trans (sz_len ds) (by omega)
            · refine ⟨D2, ds.map (hasText m), rfl, .inl (.inl ?_), ?_⟩
              · rw [h3, all_bl (by rw [h1, hl]) h2]
              · rw [List.all_map]
                exact q H2 (s1.trans h4)
        · have fT : isB "tuple" d = false := by
            cases d with
            | tup ds => exact absurd ⟨ds, rfl⟩ hT
            | _ => rfl
          have e : hasText (m + 1) d = false := by
            cases d with
            | non => exact absurd rfl hn
            | int i => exact absurd ⟨i, rfl⟩ hi
            | str z => exact hm
            | tup ds => exact absurd ⟨ds, rfl⟩ hT
            | pap c z ds => exact absurd ⟨c, z, ds, rfl⟩ hP
            | _ => rfl
          rw [e] at q
          rw [fT]
          exact iteF (q H1 s1)
end
end K6
end
section -- KF10
set_option maxHeartbeats 4000000
/-! words_of. -/
namespace K6
open PySem PySem.Spec PyProof.Rows L2 NdefX
mutual
/-- the words of data -/
def Dat.W : Dat → List Str
  | .non => ["-"]
  | .str z => [z]
  | .int i => [iStr i]
  | .tup ds => "(" :: (Ws ds ++ [(")" : Str)])
  | .pap _ z ds => "[" :: z :: (Ws ds ++ [("]" : Str)])
  | _ => []
def Ws : List Dat → List Str
  | [] => []
  | d :: r => d.W ++ Ws r
end
def chars (ws : List Str) : Nat := (ws.map fun z => z.length + 1).sum
theorem chars_app (a b : List Str) : chars (a ++ b) = chars a + chars b := by
  unfold chars
  rw [List.map_append, List.sum_append]
theorem chars_cons (a : Str) (b : List Str) : chars (a :: b) = a.length + 1 + chars b := by
  unfold chars
  rw [List.map_cons, List.sum_cons]
theorem chars_len (ws : List Str) : ws.length ≤ chars ws := by
  induction ws with
  | nil => exact Nat.le_refl _
  | cons a b ih =>
    rw [chars_cons, List.length_cons]
    omega
mutual
theorem chars_W : ∀ d : Dat, d.pl = true → chars d.W = d.sz
  | .non, _ => rfl
  | .bl _, h => by cases h
  | .int i, _ => by
    show chars [iStr i] = (iStr i).length + 1
    rw [chars_cons]
    rfl
  | .str z, _ => by
    show chars [z] = z.length + 1
    rw [chars_cons]
    rfl
  | .emp, h => by cases h
  | .lst _, h => by cases h
  | .pap c z ds, h => by
    show chars (("[" : Str) :: z :: (Ws ds ++ [("]" : Str)])) = 5 + z.length + szS ds
    rw [chars_cons, chars_cons, chars_app, chars_Ws ds h, chars_cons]
    show 1 + 1 + (z.length + 1 + (szS ds + (1 + 1 + 0))) = _
    omega
  | .tup ds, h => by
    show chars (("(" : Str) :: (Ws ds ++ [(")" : Str)])) = 4 + szS ds
    rw [chars_cons, chars_app, chars_Ws ds h, chars_cons]
    show 1 + 1 + (szS ds + (1 + 1 + 0)) = _
    omega
theorem chars_Ws : ∀ ds : List Dat, plS ds = true → chars (Ws ds) = szS ds
  | [], _ => rfl
  | d :: r, h => by
    have h : (d.pl && plS r) = true := h
    rw [Bool.and_eq_true] at h
    show chars (d.W ++ Ws r) = d.sz + szS r
    rw [chars_app, chars_W d h.1, chars_Ws r h.2]
end
theorem Ws_app (a b : List Dat) : Ws (a ++ b) = Ws a ++ Ws b := by
  induction a with
  | nil => rfl
  | cons d r ih =>
    show d.W ++ Ws (r ++ b) = d.W ++ Ws r ++ Ws b
    rw [ih, List.append_assoc]
theorem take_more6 {α : Type} {l : List α} {i : Nat} {x : α} (h : l[i]? = some x) : l.take (i + 1) = l.take i ++ [x] := by
  rw [List.take_add_one, h]
  rfl
theorem Ws_take {ds : List Dat} {i : Nat} {d : Dat} (h : ds[i]? = some d) : Ws (ds.take (i + 1)) = Ws (ds.take i) ++ d.W := by
  rw [take_more6 h, Ws_app]
  show Ws (ds.take i) ++ (d.W ++ []) = _
  rw [List.append_nil]
theorem szS_app (a b : List Dat) : szS (a ++ b) = szS a + szS b := by
  induction a with
  | nil =>
    show szS b = 0 + szS b
    omega
  | cons d r ih =>
    show d.sz + szS (r ++ b) = d.sz + szS r + szS b
    rw [ih]
    omega
theorem szS_take (ds : List Dat) (i : Nat) : szS (ds.take i) ≤ szS ds := by
  have e := szS_app (ds.take i) (ds.drop i)
  rw [List.take_append_drop] at e
  omega
theorem plS_take {ds : List Dat} (i : Nat) (h : plS ds = true) : plS (ds.take i) = true := plS_all fun j d hj => by
  rw [List.getElem?_take] at hj
  split at hj
  · exact plS_at h hj
  · cases hj
mutual
/-- the numbers have less than 4300 figures -/
def Dat.few : Dat → Prop
  | .int i => i.natAbs < 10 ^ 4300
  | .tup ds => fewS ds
  | .pap _ _ ds => fewS ds
  | _ => True
def fewS : List Dat → Prop
  | [] => True
  | d :: r => d.few ∧ fewS r
end
theorem few_at : ∀ {ds : List Dat} {i : Nat} {d : Dat}, fewS ds → ds[i]? = some d → d.few
  | [], i, d, _, h => by simp at h
  | e :: r, 0, d, o, h => by
    have e2 := Option.some.inj h
    rw [← e2]
    exact o.1
  | e :: r, i + 1, d, o, h => few_at (ds := r) (i := i) o.2 h
section
variable {P : Program} {w : World} {K : PySem.W.Frag} {mg : Str → Option Value} {base : Heap}
structure WordD (n : Nat) (d : Dat) : Prop where
  ok : d.ok = true
  pl : d.pl = true
  few : d.few
  sz : d.sz ≤ sizeLine
  dp : d.dep ≤ n
def spWords (K : PySem.W.Frag) (n : Nat) : Sp := fun vs H Q _ => ∃ v d, vs = [v] ∧ RpK K H v d ∧ WordD n d ∧ ∀ H' l, Same H H' → H l = none → H' l = some (.lst (d.W.map V.str)) → Q (.ref l) H'
def spWordsN (K : PySem.W.Frag) : Nat → Sp
  | 0 => fun _ _ _ _ => False
  | n + 1 => spWords K n
theorem sc_words : FnScope ["value", "some", "found", "one"] ["value"] (defScope (top 80)) := ⟨rfl, rfl, rfl, by decide +kernel, rfl, by decide +kernel, by decide +kernel⟩
theorem d_words (T : Txt w K mg) {fd fd1 : FuncData} (F : FnT K "words_of" 80 fd) (F1 : FnT K "is_integer" 4 fd1) : ∀ n, Dfn P w K mg base CX0 (n + 1) "words_of" ["value"] (spWordsN K n) := by
  intro n
  induction n with
  | zero => exact dfn_no F (T.g _ (by decide +kernel)) (fun _ _ _ _ _ _ us hl => match us, hl with | [_], _ => rfl)
  | succ n D =>
    have D1 := (d_isInt (P := P) (base := base) T F1).mono (k' := n + 1) (by omega)
    refine dfn_mk F (T.g _ (by decide +kernel)) (fun _ _ _ _ _ _ us hl => match us, hl with | [_], _ => rfl) (F.ok sc_words (fun vs H Q E h => by obtain ⟨v, d, rfl, _⟩ := h; rfl) fun cdv A outer s H vs Q E hr h => ?_)
    have mI := T.z "isinstance" (by decide +kernel)
    have mS := T.z "str" (by decide +kernel)
    have gP := T.g "Paper" (by decide +kernel)
    refine ⟨_, PSs.nox (pss_cons (ps_if (pt_cmpR op_isN (pv 0) pe_non (nomark _)) (pss_one (ps_ret (pe_lst (pa_cons pe_str pa_nil)))) pss_nil)
      (pss_cons (ps_if (pt_val (pe_callB call_isi rfl mI (by decide +kernel) (pa_cons (pv 0) (pa_cons (pe_ty "str" mS) pa_nil)))) (pss_one (ps_ret (pe_lst (pa_cons (pv 0) pa_nil)))) pss_nil)
      (pss_cons (ps_if (pt_val (pe_d D1 hr pass0 (pa_cons (pv 0) pa_nil))) (pss_one (ps_ret (pe_lst (pa_cons (pe_callTy (call_str_intL rfl T.dg) rfl mS (by decide +kernel) (pa_cons (pv 0) pa_nil)) pa_nil)))) pss_nil)
      (pss_cons (ps_par (i := 1) (j := 2) (by rfl) sc_words.nd rfl rfl (by decide) rfl rfl (pa_cons (pe_ifExp (pt_val (pe_callB call_isi rfl mI (by decide +kernel) (pa_cons (pv 0) (pa_cons (pe_go gP) pa_nil)))) (pe_fld (pv 0) rfl) (pv 0)) (pa_cons (pe_lst pa_nil) pa_nil)) (by rfl))
      (pss_cons (ps_for PassesOwn.never rfl (pi_tup (pv 1)) (pg_name (i := 3) sc_words.nd rfl (Or.inl rfl)) (pss_one (ps_expr (pe_bm PySem.F.plainAttrs_list PySem.F.slot_list_extend PySem.F.type_list_extend mt_extend (pv 2) (pa_cons (pe_d D hr pass0 (pa_cons (pv 3) pa_nil)) pa_nil)))))
      (pss_one (ps_ret (pe_ifExp (pt_val (pe_callB call_isi rfl mI (by decide +kernel) (pa_cons (pv 0) (pa_cons (pe_go gP) pa_nil)))) (pe_lst (pa_cons pe_str (pa_cons (pe_fld (pv 0) rfl) (StX.pa_star (pv 2) (pa_cons pe_str pa_nil))))) (pe_lst (pa_cons pe_str (StX.pa_star (pv 2) (pa_cons pe_str pa_nil)))))))))))), ?_⟩
    obtain ⟨v, d, rfl, r, hd, q⟩ := h
    have hc := okc_of hd.ok
    have one_ : ∀ {x : V} {z : Str} {H1 : Hp}, Same H H1 → d.W = [z] → x = .str z → ([x] : List V).length ≤ sizeLine ∧ ∀ p, H1 p = none → Q (.ref p) (upd H1 p (.lst [x])) := fun {x z H1} s1 e ex => by
      subst ex
      refine ⟨by show 1 ≤ sizeLine; decide, fun p np => q _ p (s1.trans (Same.new np)) (s1.free np) ?_⟩
      rw [e]
      exact upd_same
    refine ⟨_, rfl, rfl, _, rfl, ?_⟩
    by_cases hn : d = .non
    · subst hn
      cases r
      exact iteT (one_ (Same.refl H) rfl rfl)
    have vn : v ≠ .non := by
      intro z
      subst z
      cases r
      exact hn rfl
    rw [decide_eq_false vn]
    refine iteF ⟨_, rfl, _, _, _, _, _, rfl, .ty _, ty_of T r hc, kit_B T hc (by simp), _, rfl, ?_⟩
    rcases str_cases d with ⟨z, rfl⟩ | es
    · cases r
      exact iteT ⟨_, rfl, one_ (Same.refl H) rfl rfl⟩
    rw [es]
    refine iteF ⟨_, rfl, v, d, rfl, r, hc, _, rfl, ?_⟩
    by_cases hi : ∃ i, d = .int i
    · obtain ⟨i, rfl⟩ := hi
      cases r
      exact iteT ⟨_, rfl, i, rfl, hd.few, one_ (Same.refl H) rfl rfl⟩
    have ni : isInt d = false := by
      cases d with
      | int i => exact absurd ⟨i, rfl⟩ hi
      | _ => rfl
    rw [ni]
    refine iteF ⟨_, rfl, _, _, _, _, _, rfl, .own _, ty_of T r hc, kit_P T hc, _, rfl, ?_⟩
    -- the loop, and what stands behind it
    have loop : ∀ (t : Addr) (vs : List V) (ds : List Dat), H t = some (.tup vs) → RpsK K H vs ds → okS ds = true → plS ds = true → fewS ds → szS ds + 4 ≤ sizeLine → depS ds + 1 ≤ n → ∀ (f0 : Addr), H f0 = none → ∀ (D0 : Ends),
        (∀ (σ : L2.St) (H' : Hp), (∃ o, σ = [some v, some (.ref t), some (.ref f0), o]) → Same H H' → H' f0 = some (.lst ((Ws ds).map V.str)) → D0.nx σ H') →
        tFor (iTup K (tVar 1)) (gName 3) (tDrop (tBM K "list" rExtend (tVar 2) (tCons (tCall (spWordsN K n) [] E0 (tCons (tVar 3) tNil)) tNil))) D0 [some v, some (.ref t), some (.ref f0), none] (upd H f0 (.lst [])) := by
      intro t vs ds ht rs os ps fs zs dps f0 nf D0 fin
      have s0 : Same H (upd H f0 (.lst [])) := Same.new nf
      obtain ⟨m, rfl⟩ : ∃ m, n = m + 1 := ⟨n - 1, by omega⟩
      refine ⟨_, rfl, t, rfl, ⟨_, SqT.of (s0 _ _ ht)⟩, for_tup (xs := vs) (fun i σ H' => (∃ o, σ = [some v, some (.ref t), some (.ref f0), o]) ∧ Same H H' ∧ H' f0 = some (.lst ((Ws (ds.take i)).map V.str))) ⟨⟨_, rfl⟩, s0, upd_same⟩ (fun i σ H' _ h => SqT.of (h.2.1 _ _ ht)) (fun i x σ H' hx h => ?_) fun σ H' h => ?_⟩
      · obtain ⟨⟨o, rfl⟩, s1, h1⟩ := h
        obtain ⟨d2, hd2, r2⟩ := rs.at hx
        have wd : WordD m d2 := ⟨okS_at os hd2, plS_at ps hd2, few_at fs hd2, Nat.le_trans (sz_at hd2) (by omega), Nat.le_trans (dep_le hd2) (by omega)⟩
        refine ⟨_, rfl, .inl ⟨rfl, _, SqL.of h1⟩, _, rfl, x, d2, rfl, r2.mono s1, wd, fun H2 l s2 nl hl => ?_⟩
        refine ⟨f0, l, _, _, rfl, rfl, s2 _ _ h1, hl, ?_, ⟨_, rfl⟩, fun b u e => ?_, ?_⟩
        · have c1 := chars_Ws (ds.take i) (plS_take i ps)
          have c2 := chars_W d2 wd.pl
          have l1 := chars_len (Ws (ds.take i))
          have l2 := chars_len d2.W
          have t1 := szS_take ds (i + 1)
          rw [take_more6 hd2, szS_app] at t1
          have t2 : szS [d2] = d2.sz + 0 := rfl
          rw [List.length_map, List.length_map]
          omega
        · rw [upd_ne (ne_of_none e nf)]
          exact s2 _ _ (s1 _ _ e)
        · rw [upd_same, Ws_take hd2, List.map_append]
      · obtain ⟨e, s1, h1⟩ := h
        rw [rs.len, List.take_length] at h1
        exact fin σ H' e s1 h1
    by_cases hP : ∃ c z ds, d = .pap c z ds
    · obtain ⟨c, z, ds, rfl⟩ := hP
      have ho := hd.ok
      have ho : (decide (c < 24) && (nlS ds && okS ds)) = true := ho
      rw [Bool.and_eq_true, Bool.and_eq_true] at ho
      have hz : 5 + z.length + szS ds ≤ sizeLine := hd.sz
      have hdp : depS ds + 1 ≤ n := hd.dp
      have pc := T.p c (of_decide_eq_true ho.1)
      have r0 := r
      cases r with
      | pap ha hw hp ht hf hm2 rs =>
        rename_i a dx t fs vs
        refine iteT ⟨_, rfl, _, _, _, _, _, rfl, ha, pc.cls, pc.noP, hp, (by show 0 ≤ sizeLine; decide), fun f0 nf => ⟨_, _, rfl, ?_⟩⟩
        refine loop t vs ds ht rs ho.2.2 hd.pl hd.few (by omega) hdp f0 nf _ fun σ H' e s1 h1 => ?_
        obtain ⟨o, rfl⟩ := e
        have r1 := r0.mono s1
        refine ⟨_, rfl, _, _, _, _, _, rfl, .own _, ty_of T r1 hc, kit_P T hc, _, rfl, iteT ?_⟩
        refine ⟨_, rfl, _, _, _, _, _, rfl, s1 _ _ ha, pc.cls, pc.noW, hw, _, rfl, f0, _, rfl, .inr (SqL.of h1), ?_, fun p np => q _ p (s1.trans (Same.new np)) (s1.free np) ?_⟩
        · have c1 := chars_Ws ds hd.pl
          have l1 := chars_len (Ws ds)
          show (V.str "[" :: V.str z :: ((Ws ds).map V.str ++ [V.str "]"])).length ≤ sizeLine
          rw [List.length_cons, List.length_cons, List.length_append, List.length_map, List.length_singleton]
          omega
        · have e : (Dat.pap c z ds).W.map V.str = V.str "[" :: V.str z :: ((Ws ds).map V.str ++ [V.str "]"]) := by
            show (("[" : Str) :: z :: (Ws ds ++ [("]" : Str)])).map V.str = _
            rw [List.map_cons, List.map_cons, List.map_append]
            rfl
          rw [e]
          exact upd_same
    · have fP : isP d = false := by
        cases d with
        | pap c z ds => exact absurd ⟨c, z, ds, rfl⟩ hP
        | _ => rfl
      obtain ⟨ds, rfl⟩ : ∃ ds, d = .tup ds := by
        have hp := hd.pl
        cases d with
        | tup ds => exact ⟨ds, rfl⟩
        | pap c z ds => exact absurd ⟨c, z, ds, rfl⟩ hP
        | non => exact absurd rfl hn
        | int i => exact absurd ⟨i, rfl⟩ hi
        | str z => cases es
        | bl _ => cases hp
        | emp => cases hp
        | lst _ => cases hp
      have hz : 4 + szS ds ≤ sizeLine := hd.sz
      have hdp : depS ds + 1 ≤ n := hd.dp
      have r0 := r
      cases r with
      | tup ht rs =>
        rename_i a vs
        refine iteF ⟨_, rfl, (by show 0 ≤ sizeLine; decide), fun f0 nf => ⟨_, _, rfl, ?_⟩⟩
        refine loop a vs ds ht rs hd.ok hd.pl hd.few (by omega) hdp f0 nf _ fun σ H' e s1 h1 => ?_
        obtain ⟨o, rfl⟩ := e
        have r1 := r0.mono s1
        refine ⟨_, rfl, _, _, _, _, _, rfl, .own _, ty_of T r1 hc, kit_P T hc, _, rfl, iteF ?_⟩
        refine ⟨_, rfl, f0, _, rfl, .inr (SqL.of h1), ?_, fun p np => q _ p (s1.trans (Same.new np)) (s1.free np) ?_⟩
        · have c1 := chars_Ws ds hd.pl
          have l1 := chars_len (Ws ds)
          show (V.str "(" :: ((Ws ds).map V.str ++ [V.str ")"])).length ≤ sizeLine
          rw [List.length_cons, List.length_append, List.length_map, List.length_singleton]
          omega
        · have e : (Dat.tup ds).W.map V.str = V.str "(" :: ((Ws ds).map V.str ++ [V.str ")"]) := by
            show (("(" : Str) :: (Ws ds ++ [(")" : Str)])).map V.str = _
            rw [List.map_cons, List.map_append]
            rfl
          rw [e]
          exact upd_same
end
end K6
end
section -- KF11
set_option maxHeartbeats 4000000
/-! is_written. -/
namespace K6
open PySem PySem.Spec PyProof.Rows L2 NdefX
/-- the figures of a word: behind a sign -/
def figs : List Nat → List Nat
  | 45 :: r => r
  | l => l
def isWrL (l : List Nat) : Bool := match figs l with
  | [] => false
  | c :: r => decide (r.length < 4000) && (c :: r).all (fun x => decide (x ∈ ("0123456789" : Str).cps.toList)) && (decide (l = [48]) || !decide (c = 48))
def isWr (z : Str) : Bool := isWrL z.cps.toList
section
variable {P : Program} {w : World} {K : PySem.W.Frag} {mg : Str → Option Value} {base : Heap}
def spWr (K : PySem.W.Frag) : Sp := fun vs H Q _ => ∃ z : Str, vs = [.str z] ∧ z.length ≤ sizeLine ∧ ∀ H', Same H H' → Q (.bl (isWr z)) H'
theorem sc_wr : FnScope ["word", "figures", "sign"] ["word"] (defScope (top 81)) := ⟨rfl, rfl, rfl, by decide +kernel, rfl, by decide +kernel, by decide +kernel⟩
theorem d_wr (T : Txt w K mg) {fd : FuncData} (F : FnT K "is_written" 81 fd) : Dfn P w K mg base CX0 1 "is_written" ["word"] (spWr K) := by
  refine dfn_mk F (T.g _ (by decide +kernel)) (fun _ _ _ _ _ _ us hl => match us, hl with | [_], _ => rfl) (F.ok sc_wr (fun vs H Q E h => by obtain ⟨v, rfl, _⟩ := h; rfl) fun cdv A outer s H vs Q E hr h => ?_)
  have mL := T.z "len" (by decide +kernel)
  have mA := T.z "all" (by decide +kernel)
  obtain ⟨t1, g1⟩ := T.i "MOST_FIGURES" 4000 (by decide +kernel)
  obtain ⟨t2, g2⟩ := T.s "FIGURES" "0123456789" (by decide +kernel)
  refine ⟨_, PSs.nox (pss_cons (ps_set (i := 1) sc_wr.nd rfl (Or.inl rfl) (pe_ifExp (pt_cmpR op_eq (pe_slice C8.sl_txt (pv 0) po_none (po_some pe_int)) pe_str (nomark _)) (pe_slice C8.sl_txt (pv 0) (po_some pe_int) po_none) (pv 0)))
    (pss_cons (ps_if (PW.pt (pw_or (pt_not (pt_chain op_le op_le pe_int (pe_callB call_len_str rfl mL PySem.boot_len (pa_cons (pv 1) pa_nil)) (pe_gi g1)))
      (pw_or1 (pt_not (pt_val (pe_callB (cr_all rfl) rfl mA (by decide +kernel) (pa_cons (pe_lc (own := [("sign", 2)]) (g := gName 2) (tt := tYes) rfl sc_wr.nd (pi_str (pv 1)) (blkOk_by (own := [("sign", 2)]) (N := ["word", "figures", "sign"]) (sc := defScope (top 81)) (by decide +kernel))
      (fun _ _ _ _ _ => pg_name (i := 2) sc_wr.nd rfl (Or.inl rfl)) (fun _ _ _ _ _ => pts_nil) (fun _ _ _ _ _ => pe_cmpR op_in_sign (pv 2) (pe_gs g2) rfl)) pa_nil))))))) (pss_one (ps_ret pe_bl)) pss_nil)
    (pss_one (ps_ret (pe_or (pe_cmpR op_eq (pv 0) pe_str (nomark _)) (pe_one (pe_cmpR op_ne (pe_ix ix_str (pv 1) pe_int (fun _ _ => rfl)) pe_str (nomark _)))))))), ?_⟩
  obtain ⟨z, rfl, hz, q⟩ := h
  obtain ⟨l, rfl⟩ : ∃ l, z = SX.S l := ⟨_, (SX.S_tl z).symm⟩
  have hlen : (SX.S l).length = l.length := SX.S_len l
  have te_ok : ∀ Q1 : VK, Q1 (.str (SX.S (figs l))) H → tIf (tTest (tOp rEq (tSl C8.rSlX (tVar 0) tNoPart (tPart (tC (.int 1)))) (tC (.str "-")))) (tSl C8.rSlX (tVar 0) (tPart (tC (.int 1))) tNoPart) (tVar 0) [some (.str (SX.S l)), none, none] H Q1 := by
    intro Q1 q1
    refine ⟨_, rfl, _, rfl, _, rfl, hz, rfl, _, rfl, ?_⟩
    have e1 : Txt.slice (SX.S l) none (some 1) = SX.S (l.take 1) := SX.slice_to (by decide)
    have e2 : Txt.slice (SX.S l) (some 1) none = SX.S (l.drop 1) := SX.slice_from (by decide)
    rw [e1]
    have m : ("-" : Str) = SX.S [45] := rfl
    match l, q1, hz, e2 with
    | [], q1, hz, e2 =>
      rw [decide_eq_false (show ¬ V.str (SX.S (([] : List Nat).take 1)) = V.str "-" from fun z => by
        have z2 := SX.S_inj (V.str.inj z)
        cases z2)]
      exact iteF ⟨_, rfl, q1⟩
    | c :: r, q1, hz, e2 =>
      by_cases hc : c = 45
      · subst hc
        rw [decide_eq_true (show V.str (SX.S ((45 :: r).take 1)) = V.str "-" from rfl)]
        refine iteT ⟨_, rfl, _, rfl, _, rfl, hz, ?_⟩
        rw [e2]
        exact q1
      · rw [decide_eq_false (show ¬ V.str (SX.S ((c :: r).take 1)) = V.str "-" from fun z => by
          have z2 : [c] = [45] := SX.S_inj (V.str.inj z)
          exact hc (List.cons.inj z2).1)]
        have ef : figs (c :: r) = c :: r := by
          unfold figs
          split
          · rename_i z2
            exact absurd (List.cons.inj z2).1 hc
          · rfl
        rw [ef] at q1
        exact iteF ⟨_, rfl, q1⟩
  refine te_ok _ ?_
  have fl_ : (figs l).length ≤ l.length := by
    unfold figs
    split
    · simp
    · exact Nat.le_refl _
  have hz2 : (SX.S (figs l)).length ≤ sizeLine := by
    rw [SX.S_len]
    omega
  have e0 : isWr (SX.S l) = isWrL l := rfl
  rw [e0] at q
  unfold isWrL at q
  refine ⟨_, rfl, _, rfl, hz2, _, _, rfl, rfl, _, rfl, ?_⟩
  generalize hf : figs l = g at q hz2
  have hg : ((SX.S g).length : Int) = (g.length : Int) := by rw [SX.S_len]
  rw [hg]
  cases g with
  | nil => exact iteF ⟨_, rfl, iteT (iteT (q H (Same.refl H)))⟩
  | cons c r =>
    have q : ∀ H', Same H H' → Q (.bl (decide (r.length < 4000) && (c :: r).all (fun x => decide (x ∈ ("0123456789" : Str).cps.toList)) && (decide (l = [48]) || !decide (c = 48)))) H' := q
    rw [decide_eq_true (show (1 : Int) ≤ ((c :: r).length : Int) by rw [List.length_cons]; omega)]
    refine iteT ⟨_, _, rfl, rfl, _, rfl, ?_⟩
    by_cases h4 : r.length < 4000
    · rw [decide_eq_true (show ((c :: r).length : Int) ≤ 4000 by rw [List.length_cons]; omega)]
      rw [decide_eq_true h4, Bool.true_and] at q
      refine iteF ?_
      refine ⟨_, rfl, _, rfl, fun D hD => lc_all walk_str hD (fun i v _ => ∃ x, (SX.S (c :: r)).cps[i]? = some x ∧ v = .bl (decide (x ∈ ("0123456789" : Str).cps.toList))) (fun _ _ _ _ _ h => h) (fun _ _ _ _ _ h _ => h) (fun _ _ => trivial) hz2 (fun i x H1 H2 hi s1 y Q2 k => ?_) fun H2 acc ha hr2 hD2 s2 => ?_⟩
      · obtain ⟨rfl, c2, hc2, rfl⟩ := y
        exact ⟨rfl, _, rfl, _, _, rfl, rfl, k _ _ (Same.refl _) ⟨c2, hc2, rfl⟩⟩
      · have tl : (SX.S (c :: r)).cps.toList = c :: r := rfl
        refine ⟨D, (c :: r).map fun x => decide (x ∈ ("0123456789" : Str).cps.toList), rfl, .inl (.inl ?_), ?_⟩
        · rw [hD2]
          rw [List.map_map]; congr 2
          refine acc_map (xs := c :: r) (f := fun x => V.bl (decide (x ∈ ("0123456789" : Str).cps.toList))) (by rw [ha, ← tl]; simp) fun i v hv => ?_
          obtain ⟨c2, hc2, e2⟩ := hr2 i v hv
          exact ⟨c2, by rw [← tl, Array.getElem?_toList]; exact hc2, e2⟩
        · have e : (List.map (fun x => decide (x ∈ ("0123456789" : Str).cps.toList)) (c :: r)).all id = ((c :: r).all fun x => decide (x ∈ ("0123456789" : Str).cps.toList)) := by
            rw [List.all_map]
            rfl
          rw [e]
          refine ⟨_, rfl, ?_⟩
          cases ea : (c :: r).all fun x => decide (x ∈ ("0123456789" : Str).cps.toList) with
          | false =>
            rw [ea, Bool.false_and] at q
            exact iteT (q H2 s2)
          | true =>
            rw [ea, Bool.true_and] at q
            refine iteF ?_
            refine ⟨_, rfl, rfl, _, rfl, ?_⟩
            have e1 : decide (V.str (SX.S l) = V.str "0") = decide (l = [48]) := by
              by_cases h0 : l = [48]
              · rw [h0, decide_eq_true rfl]
                exact decide_eq_true rfl
              · rw [decide_eq_false h0]
                exact decide_eq_false fun z => h0 (SX.S_inj (V.str.inj z))
            rw [e1]
            cases e2 : decide (l = [48]) with
            | true =>
              rw [e2, Bool.true_or] at q
              exact iteT (q H2 s2)
            | false =>
              rw [e2, Bool.false_or] at q
              refine iteF ⟨_, rfl, _, _, c, rfl, rfl, hz2, atI_nat (j := 0) rfl, rfl, ?_⟩
              have e3 : (!decide (V.str (⟨#[c]⟩ : Str) = V.str "0")) = !decide (c = 48) := by
                congr 1
                by_cases hc : c = 48
                · rw [hc, decide_eq_true rfl]
                  exact decide_eq_true rfl
                · rw [decide_eq_false hc]
                  exact decide_eq_false fun z => hc (by
                    have z2 : SX.S [c] = SX.S [48] := V.str.inj z
                    exact (List.cons.inj (SX.S_inj z2)).1)
              rw [e3]
              exact q H2 s2
    · rw [decide_eq_false h4, Bool.false_and, Bool.false_and] at q
      rw [decide_eq_false (show ¬ ((c :: r).length : Int) ≤ 4000 by rw [List.length_cons]; omega)]
      exact iteT (iteT (q H (Same.refl H)))
end
end K6
end
section -- KExc
set_option maxHeartbeats 4000000
/-! BadText, BadPaper: made. -/
namespace K6
open PySem PySem.Spec PyProof.Rows L2 NdefX
/-- what the written part says of an own exception with such an __init__ -/
structure ExC (P : Program) (K : PySem.W.Frag) (nm qual : Str) (st : Stmt) (fs : List Str) : Prop where
  ex : ∃ (oc : Value) (od : Option Addr) (kV doc pm : Value) (an : Option Addr) (ct : Value) (osl : Array (Option Value)) (cc cda : Addr),
    K.lookup (He.ma K (He.ga K nm) "__init__") = some ⟨oc, od, .func (PySem.W.fnX "__init__" qual (defArgs st) (defBody st) (defScope st) [("__class__", cc)] .none kV doc pm an (.ref cda) ct), osl⟩ ∧ PySem.W.codeIn K (.ref cda) qual = true ∧ SupF K P (He.ga K nm) cc cda
  oex : OexC K (He.ga K nm)
  mro : PySem.W.mroIn K (He.ga K nm) (.ref (He.ga K nm)) = some true
  ve : PySem.W.subIn K (.ref (He.ga K nm)) (.type "ValueError") = some true
  sup : PySem.W.ks_superIn K (He.ga K nm) (He.ga K nm) "__init__" = some (some (.builtin "ValueError.__init__"))
  iC : PySem.W.findIn K (.ref (He.ga K nm)) "__init__" = some (some (.ref (He.ma K (He.ga K nm) "__init__")))
  tI : PySem.W.typeIn K (.ref (He.ma K (He.ga K nm) "__init__")) = some (.type "function")
  noF : ∀ f ∈ fs, PySem.W.findIn K (.ref (He.ga K nm)) f = some none
section
variable {P : Program} {w : World} {K : PySem.W.Frag} {mg : Str → Option Value} {base : Heap}
/-- an exception's __init__ with two fields, one field -/
def spX2 (K : PySem.W.Frag) (nm f g : Str) : Sp := fun vs H Q _ => ∃ a u v, vs = [.ref a, u, v] ∧ H a = some (exo a (He.ga K nm) none) ∧ ∀ H' d, H d = none → SameBut a H H' → H' a = some (exo a (He.ga K nm) (some d)) → H' d = some (exd d [(g, v), (f, u)]) → Q .non H'
def spX1 (K : PySem.W.Frag) (nm f : Str) : Sp := fun vs H Q _ => ∃ a u, vs = [.ref a, u] ∧ H a = some (exo a (He.ga K nm) none) ∧ ∀ H' d, H d = none → SameBut a H H' → H' a = some (exo a (He.ga K nm) (some d)) → H' d = some (exd d [(f, u)]) → Q .non H'
theorem exo_exd {e C : Addr} {d : Option Addr} {x : Addr} {fs : List (Str × V)} (H : Hp) (h1 : H e = some (exo e C d)) : True := trivial
abbrev stBT : Stmt := inClass (top 19) 0
abbrev stBP : Stmt := inClass (top 18) 0
theorem sc_BT : NScope ["self", "line", "word", "__class__"] ["self", "line", "word"] ["__class__"] (defScope stBT) := ⟨rfl, rfl, rfl, by decide +kernel, rfl, by decide +kernel, by decide +kernel, by decide +kernel, by decide +kernel⟩
theorem sc_BP : NScope ["self", "part", "__class__"] ["self", "part"] ["__class__"] (defScope stBP) := ⟨rfl, rfl, rfl, by decide +kernel, rfl, by decide +kernel, by decide +kernel, by decide +kernel, by decide +kernel⟩
theorem d_BT (S : ExC P K "BadText" "BadText.__init__" stBT ["line", "word"]) : ∃ fd, FnOk P w K mg base CX0 1 (He.ma K (He.ga K "BadText") "__init__") fd ["self", "line", "word"] (spX2 K "BadText" "line" "word") ∧ Binds K fd ["self", "line", "word"] [] := by
  obtain ⟨oc, od, kV, doc, pm, an, ct, osl, cc, cda, lk, hcd, SF⟩ := S.ex
  refine ⟨_, fn_supE (F := ⟨"__init__", "BadText.__init__", defArgs stBT, defBody stBT, defScope stBT, [("__class__", cc)], cda⟩) lk hcd rfl SF sc_BT rfl (fun vs H Q E h => ?_) rfl rfl (by decide) rfl rfl rfl S.oex S.mro S.ve S.sup (fun A outer s H vs Q E hr h => ?_), ?_⟩
  · obtain ⟨a, u, v, rfl, _⟩ := h
    rfl
  · refine ⟨_, _, pa_cons (pv 1) (pa_cons (pv 2) pa_nil), PSs.nox (pss_cons (ps_ost (pv 0) (pv 1) rfl) (pss_one (ps_ost (pv 0) (pv 2) rfl))), ?_⟩
    obtain ⟨a, u, v, rfl, ha, q⟩ := h
    refine ⟨a, rfl, ha, _, rfl, _, rfl, (by show 2 ≤ 1000; decide), ha, ?_⟩
    refine ⟨_, rfl, _, rfl, a, _, rfl, S.oex, S.noF _ (by simp), .inl ⟨ha, fun d nd ne => ?_⟩⟩
    refine ⟨_, rfl, _, rfl, a, _, rfl, S.oex, S.noF _ (by simp), .inr ⟨d, _, upd_same, by rw [upd_ne ne, upd_same], (by show 1 ≤ 900; decide), ?_⟩⟩
    refine q _ d nd (fun b o hb e => ?_) ?_ upd_same
    · have hbd : b ≠ d := ne_of_none e nd
      rw [upd_ne hbd, upd_ne hb, upd_ne hbd]
      exact e
    · rw [upd_ne (fun z => ne z.symm)]
      exact upd_same
  · exact .all fun us hl => match us, hl with | [_, _, _], _ => rfl
theorem d_BP (S : ExC P K "BadPaper" "BadPaper.__init__" stBP ["part"]) : ∃ fd, FnOk P w K mg base CX0 1 (He.ma K (He.ga K "BadPaper") "__init__") fd ["self", "part"] (spX1 K "BadPaper" "part") ∧ Binds K fd ["self", "part"] [] := by
  obtain ⟨oc, od, kV, doc, pm, an, ct, osl, cc, cda, lk, hcd, SF⟩ := S.ex
  refine ⟨_, fn_supE (F := ⟨"__init__", "BadPaper.__init__", defArgs stBP, defBody stBP, defScope stBP, [("__class__", cc)], cda⟩) lk hcd rfl SF sc_BP rfl (fun vs H Q E h => ?_) rfl rfl (by decide) rfl rfl rfl S.oex S.mro S.ve S.sup (fun A outer s H vs Q E hr h => ?_), ?_⟩
  · obtain ⟨a, u, rfl, _⟩ := h
    rfl
  · refine ⟨_, _, pa_cons (pv 1) pa_nil, PSs.nox (pss_one (ps_ost (pv 0) (pv 1) rfl)), ?_⟩
    obtain ⟨a, u, rfl, ha, q⟩ := h
    refine ⟨a, rfl, ha, _, rfl, (by show 1 ≤ 1000; decide), ha, ?_⟩
    refine ⟨_, rfl, _, rfl, a, _, rfl, S.oex, S.noF _ (by simp), .inl ⟨ha, fun d nd ne => ?_⟩⟩
    refine q _ d nd (fun b o hb e => ?_) upd_same ?_
    · rw [upd_ne hb, upd_ne (ne_of_none e nd)]
      exact e
    · rw [upd_ne ne]
      exact upd_same
  · exact .all fun us hl => match us, hl with | [_, _], _ => rfl
/-! ### raised -/
/-- what is left to show behind the arguments: an exception whose own dict, new, holds the fields -/
theorem made2 {nm f g : Str} {u v : V} {H : Hp} {Q : XK} (hn : f ≠ g) (q : ∀ H' d, Same H H' → H d = none → H' d = some (.xd [(g, v), (f, u)]) → Q (.ref (He.ga K nm)) (some d) H') :
    ([u, v] : List V).length ≤ 1000 ∧ ∀ a, H a = none → spX2 K nm f g (.ref a :: ([u, v] ++ [])) (upd H a (exo a (He.ga K nm) none))
      (fun r H2 => r = .non ∧ ∃ (d : Addr) (fs : List (Str × V)), H2 a = some (exo a (He.ga K nm) (some d)) ∧ H2 d = some (exd d fs) ∧ H d = none ∧ Q (.ref (He.ga K nm)) (some d) (upd (del H2 a) d (.xd fs))) (fun _ _ _ => False) := by
  refine ⟨by show 2 ≤ 1000; decide, fun a na => ⟨a, u, v, rfl, upd_same, fun H' d nd sb ha hd => ⟨rfl, d, _, ha, hd, ?_, ?_⟩⟩⟩
  · exact (Same.new na).free nd
  · have nd' : H d = none := (Same.new na).free nd
    refine q _ d (fun b o e => ?_) nd' upd_same
    rw [upd_ne (ne_of_none e nd'), del_ne (ne_of_none e na)]
    exact sb b o (ne_of_none e na) (by rw [upd_ne (ne_of_none e na)]; exact e)
theorem made1 {nm f : Str} {u : V} {H : Hp} {Q : XK} (q : ∀ H' d, Same H H' → H d = none → H' d = some (.xd [(f, u)]) → Q (.ref (He.ga K nm)) (some d) H') :
    ([u] : List V).length ≤ 1000 ∧ ∀ a, H a = none → spX1 K nm f (.ref a :: ([u] ++ [])) (upd H a (exo a (He.ga K nm) none))
      (fun r H2 => r = .non ∧ ∃ (d : Addr) (fs : List (Str × V)), H2 a = some (exo a (He.ga K nm) (some d)) ∧ H2 d = some (exd d fs) ∧ H d = none ∧ Q (.ref (He.ga K nm)) (some d) (upd (del H2 a) d (.xd fs))) (fun _ _ _ => False) := by
  refine ⟨by show 1 ≤ 1000; decide, fun a na => ⟨a, u, rfl, upd_same, fun H' d nd sb ha hd => ⟨rfl, d, _, ha, hd, ?_, ?_⟩⟩⟩
  · exact (Same.new na).free nd
  · have nd' : H d = none := (Same.new na).free nd
    refine q _ d (fun b o e => ?_) nd' upd_same
    rw [upd_ne (ne_of_none e nd'), del_ne (ne_of_none e na)]
    exact sb b o (ne_of_none e na) (by rw [upd_ne (ne_of_none e na)]; exact e)
/-- an own exception as it is walked: its __init__'s promise, its arguments bound -/
def XOk (P : Program) (w : World) (K : PySem.W.Frag) (mg : Str → Option Value) (base : Heap) (nm : Str) (ps : List Str) (sp : Sp) : Prop :=
  OexC K (He.ga K nm) ∧ PySem.W.findIn K (.ref (He.ga K nm)) "__init__" = some (some (.ref (He.ma K (He.ga K nm) "__init__"))) ∧ PySem.W.typeIn K (.ref (He.ma K (He.ga K nm) "__init__")) = some (.type "function") ∧ mg nm = some (.ref (He.ga K nm)) ∧
    ∃ fd, FnOk P w K mg base CX0 1 (He.ma K (He.ga K nm) "__init__") fd ps sp ∧ Binds K fd ps []
section
variable {X : Cx}
/-- raise C(e, ..) -/
theorem ps_raiseX {nm : Str} {ps : List Str} {sp : Sp} {W : WX} {ta : TA} {e : Expr} {es : List Expr} {p pos pos2 : Pos} (hc : X.calm = true) (O : XOk X.prog X.w X.K X.mg X.base nm ps sp) (hr : Room 2 X.A) (tk : Takes X W) (ha : PA X (e :: es) ta) (hg : Gl X nm := by rfl) (hdb : (nm == ("__debug__" : Str)) = false := by decide)
    (he : starEach (e :: es) X.env = (false, eval e X.env) :: starEach es X.env := by rfl) (hpl : (backTo pos (starEach es X.env)).any (·.1) = false := by rfl) :
    PS X (.Raise (some (.Call (.Name nm p) (e :: es) [] pos)) none pos2) (fun _ σ H => tMkO (He.ga X.K nm) sp [] ta σ H fun cls d H' => W cls d σ H') := by
  obtain ⟨o, iC, tI, m, fd, F, b⟩ := O
  exact ps_raise hc tk (pmk_oex o iC tI F hr b .nil (fun _ _ _ _ _ _ _ h => h.elim) hg m ha hdb he hpl)
end
end
end K6
end
section -- KParse
set_option maxHeartbeats 4000000
/-! How words are read: a mirror in plain Lean. -/
namespace K6
open PySem PySem.Spec PyProof.Rows L2
/-- what is read and where one stands behind it; or where it was refused -/
abbrev Rs (α : Type) := Except Nat (α × Nat)
abbrev Rd1 := Nat → Rs Dat
/-- the number that a word writes -/
def valW (z : Str) : Int := (PySem.intText? z).getD 0
/-- so many of them -/
def pSeq (f : Rd1) : Nat → Nat → List Dat → Rs (List Dat)
  | 0, n, acc => .ok (acc, n)
  | k + 1, n, acc => match f n with
    | .error e => .error e
    | .ok (d, m) => pSeq f k m (acc ++ [d])
/-- until the sign that ends them -/
def pLoop (ws : List Str) (f : Rd1) : Nat → Nat → List Dat → Rs (List Dat)
  | k, n, acc => if ws[n]? = some (")" : Str) then .ok (acc, n + 1) else match k with
    | 0 => .error n
    | k + 1 => match f n with
      | .error e => .error e
      | .ok (d, m) => pLoop ws f k m (acc ++ [d])
/-- a paper: its word, its parts -/
def pPaper (ws : List Str) (f : Rd1) (n : Nat) : Rs Dat := match ws[n]? with
  | none => .error n
  | some z => match counts.lookup z with
    | none => .error n
    | some k => match pSeq f k (n + 1) [] with
      | .error e => .error e
      | .ok (ds, m) => .ok (.pap ((wnum z).getD 0) z ds, m)
def pDeep (ws : List Str) (f : Rd1) (z : Str) (n : Nat) : Rs Dat :=
  if z = ("[" : Str) then
    match pPaper ws f (n + 1) with
    | .error e => .error e
    | .ok (p, m) => if ws[m]? = some ("]" : Str) then .ok (p, m + 1) else .error m
  else
    match pLoop ws f (ws.length + 1) (n + 1) [] with
    | .error e => .error e
    | .ok (ds, m) => .ok (.tup ds, m)
def pAt (ws : List Str) (f? : Option Rd1) (n : Nat) : Rs Dat := match ws[n]? with
  | none => .error n
  | some z =>
    if z = ("(" : Str) ∨ z = ("[" : Str) then
      match f? with
      | none => .error n
      | some f => pDeep ws f z n
    else if z = ("-" : Str) then .ok (.non, n + 1)
    else if isWr z = true then .ok (.int (valW z), n + 1)
    else if isNm z = true then .ok (.str z, n + 1)
    else .error n
def pItem (ws : List Str) : Nat → Rd1
  | 0 => pAt ws none
  | d + 1 => pAt ws (some (pItem ws d))
def pWhole (ws : List Str) : Except Nat Dat := match pPaper ws (pItem ws 20) 0 with
  | .error e => .error e
  | .ok (p, m) => if m < ws.length then .error m else .ok p
/-! ### what is read is well -/
structure Well (k n : Nat) (L : Nat) (d : Dat) (m : Nat) : Prop where
  lt : n < m
  le : m ≤ L
  pl : d.pl = true
  ok : d.ok = true
  dp : d.dep ≤ k
  cn : d.cn + n ≤ m
structure WellS (k n : Nat) (L : Nat) (ds : List Dat) (m : Nat) : Prop where
  le : n ≤ m
  lL : n ≤ L → m ≤ L
  pl : plS ds = true
  ok : okS ds = true
  dp : depS ds ≤ k
  cn : cnS ds + n ≤ m
def Good (L k : Nat) (f : Rd1) : Prop := ∀ n d m, f n = .ok (d, m) → Well k n L d m
theorem plS_app (a b : List Dat) : plS (a ++ b) = (plS a && plS b) := by
  induction a with
  | nil => rfl
  | cons d r ih =>
    show (d.pl && plS (r ++ b)) = (d.pl && plS r && plS b)
    rw [ih, Bool.and_assoc]
theorem okS_app (a b : List Dat) : okS (a ++ b) = (okS a && okS b) := by
  induction a with
  | nil => rfl
  | cons d r ih =>
    show (d.ok && okS (r ++ b)) = (d.ok && okS r && okS b)
    rw [ih, Bool.and_assoc]
theorem cnS_app (a b : List Dat) : cnS (a ++ b) = cnS a + cnS b := by
  induction a with
  | nil =>
    show cnS b = 0 + cnS b
    omega
  | cons d r ih =>
    show d.cn + cnS (r ++ b) = d.cn + cnS r + cnS b
    rw [ih]
    omega
theorem depS_app (a b : List Dat) : depS (a ++ b) = max (depS a) (depS b) := by
  induction a with
  | nil =>
    show depS b = max 0 (depS b)
    omega
  | cons d r ih =>
    show max d.dep (depS (r ++ b)) = max (max d.dep (depS r)) (depS b)
    rw [ih]
    omega
theorem wellS_snoc {k n0 n m L : Nat} {ds : List Dat} {d : Dat} (h : WellS k n0 L ds n) (w : Well k n L d m) : WellS k n0 L (ds ++ [d]) m := by
  refine ⟨Nat.le_trans h.le (Nat.le_of_lt w.lt), fun _ => w.le, ?_, ?_, ?_, ?_⟩
  · rw [plS_app, h.pl]
    show (true && (d.pl && true)) = true
    rw [w.pl] <;> rfl
  · rw [okS_app, h.ok]
    show (true && (d.ok && true)) = true
    rw [w.ok] <;> rfl
  · rw [depS_app]
    show max (depS ds) (max d.dep 0) ≤ k
    have h1 := h.dp
    have h2 := w.dp
    omega
  · rw [cnS_app]
    show cnS ds + (d.cn + 0) + n0 ≤ m
    have h1 := h.cn
    have h2 := w.cn
    omega
theorem wellS_nil {k n L : Nat} : WellS k n L [] n := ⟨Nat.le_refl _, fun h => h, rfl, rfl, Nat.zero_le _, by show 0 + n ≤ n; omega⟩
theorem pSeq_well {L k : Nat} {f : Rd1} (g : Good L k f) {n0 : Nat} : ∀ (c n : Nat) (acc ds : List Dat) (m : Nat), WellS k n0 L acc n → pSeq f c n acc = .ok (ds, m) → WellS k n0 L ds m ∧ ds.length = acc.length + c
  | 0, n, acc, ds, m, w, h => by
    unfold pSeq at h
    cases h
    exact ⟨w, rfl⟩
  | c + 1, n, acc, ds, m, w, h => by
    unfold pSeq at h
    cases e : f n with
    | error x =>
      rw [e] at h
      cases h
    | ok p =>
      obtain ⟨d, m1⟩ := p
      rw [e] at h
      obtain ⟨h1, h2⟩ := pSeq_well g c m1 (acc ++ [d]) ds m (wellS_snoc w (g n d m1 e)) h
      refine ⟨h1, ?_⟩
      rw [h2, List.length_append, List.length_singleton]
      omega
theorem at_lt {ws : List Str} {n : Nat} {z : Str} (h : ws[n]? = some z) : n < ws.length := (List.getElem?_eq_some_iff.mp h).1
theorem pLoop_well {ws : List Str} {k : Nat} {f : Rd1} (g : Good ws.length k f) {n0 : Nat} : ∀ (c n : Nat) (acc ds : List Dat) (m : Nat), WellS k n0 ws.length acc n → pLoop ws f c n acc = .ok (ds, m) → ∃ m1, WellS k n0 ws.length ds m1 ∧ m = m1 + 1 ∧ m1 < ws.length
  | c, n, acc, ds, m, w, h => by
    unfold pLoop at h
    by_cases hz : ws[n]? = some (")" : Str)
    · rw [if_pos hz] at h
      cases h
      exact ⟨n, w, rfl, at_lt hz⟩
    · rw [if_neg hz] at h
      cases c with
      | zero => cases h
      | succ c =>
        cases e : f n with
        | error x =>
          simp only [e] at h
          cases h
        | ok p =>
          obtain ⟨d, m1⟩ := p
          simp only [e] at h
          exact pLoop_well g c m1 (acc ++ [d]) ds m (wellS_snoc w (g n d m1 e)) h
theorem wnum_lt {z : Str} {k : Nat} (h : counts.lookup z = some k) : (wnum z).getD 0 < 24 ∧ wnum z = some ((wnum z).getD 0) ∧ (fl ((wnum z).getD 0)).length = k := by
  have g : ∀ q ∈ counts, (wnum q.1).getD 0 < 24 ∧ wnum q.1 = some ((wnum q.1).getD 0) ∧ (fl ((wnum q.1).getD 0)).length = q.2 := by decide +kernel
  exact g _ (lookup_memK h)
theorem pPaper_well {ws : List Str} {k : Nat} {f : Rd1} (g : Good ws.length k f) {n m : Nat} {d : Dat} (h : pPaper ws f n = .ok (d, m)) : Well (k + 1) n ws.length d m := by
  unfold pPaper at h
  cases e : ws[n]? with
  | none =>
    rw [e] at h
    cases h
  | some z =>
    rw [e] at h
    simp only [] at h
    cases ec : counts.lookup z with
    | none =>
      rw [ec] at h
      cases h
    | some c =>
      rw [ec] at h
      simp only [] at h
      cases es : pSeq f c (n + 1) [] with
      | error x =>
        rw [es] at h
        cases h
      | ok p =>
        obtain ⟨ds, m1⟩ := p
        rw [es] at h
        cases h
        obtain ⟨w, _⟩ := pSeq_well g (n0 := n + 1) c (n + 1) [] ds m wellS_nil es
        have hlt := at_lt e
        have hn := (wnum_lt ec).1
        refine ⟨by have := w.le; omega, w.lL (by omega), w.pl, ?_, ?_, ?_⟩
        · show (decide ((wnum z).getD 0 < 24) && (nlS ds && okS ds)) = true
          rw [decide_eq_true hn, plS_nl ds w.pl, w.ok] <;> rfl
        · show depS ds + 1 ≤ k + 1
          have := w.dp
          omega
        · show 1 + cnS ds + n ≤ m
          have := w.cn
          omega
theorem pAt_well {ws : List Str} {k : Nat} {f? : Option Rd1} (g : ∀ f, f? = some f → ∃ j, k = j + 1 ∧ Good ws.length j f) : Good ws.length k (pAt ws f?) := by
  intro n d m h
  unfold pAt at h
  cases e : ws[n]? with
  | none =>
    rw [e] at h
    cases h
  | some z =>
    have hlt := at_lt e
    rw [e] at h
    simp only [] at h
    by_cases hb : z = ("(" : Str) ∨ z = ("[" : Str)
    · rw [if_pos hb] at h
      cases f? with
      | none => cases h
      | some f =>
        obtain ⟨j, rfl, gf⟩ := g f rfl
        simp only [] at h
        unfold pDeep at h
        by_cases hq : z = ("[" : Str)
        · rw [if_pos hq] at h
          cases ep : pPaper ws f (n + 1) with
          | error x =>
            rw [ep] at h
            cases h
          | ok p =>
            obtain ⟨pp, m1⟩ := p
            rw [ep] at h
            simp only [] at h
            have w := pPaper_well gf ep
            by_cases h1 : ws[m1]? = some ("]" : Str)
            · rw [if_pos h1] at h
              cases h
              have := at_lt h1
              exact ⟨by have := w.lt; omega, by omega, w.pl, w.ok, w.dp, by have := w.cn; omega⟩
            · rw [if_neg h1] at h
              cases h
        · rw [if_neg hq] at h
          cases ep : pLoop ws f (ws.length + 1) (n + 1) [] with
          | error x =>
            rw [ep] at h
            cases h
          | ok p =>
            obtain ⟨ds, m1⟩ := p
            rw [ep] at h
            cases h
            obtain ⟨m2, w, rfl, hl⟩ := pLoop_well gf (n0 := n + 1) _ _ [] ds m wellS_nil ep
            refine ⟨by have := w.le; omega, by omega, w.pl, w.ok, ?_, ?_⟩
            · show depS ds + 1 ≤ j + 1
              have := w.dp
              omega
            · show 1 + cnS ds + n ≤ m2 + 1
              have := w.cn
              omega
    · rw [if_neg hb] at h
      by_cases h1 : z = ("-" : Str)
      · rw [if_pos h1] at h
        cases h
        exact ⟨by omega, by omega, rfl, rfl, Nat.zero_le _, by show 1 + n ≤ n + 1; omega⟩
      · rw [if_neg h1] at h
        by_cases h2 : isWr z = true
        · rw [if_pos h2] at h
          cases h
          exact ⟨by omega, by omega, rfl, rfl, Nat.zero_le _, by show 1 + n ≤ n + 1; omega⟩
        · rw [if_neg h2] at h
          by_cases h3 : isNm z = true
          · rw [if_pos h3] at h
            cases h
            exact ⟨by omega, by omega, rfl, rfl, Nat.zero_le _, by show 1 + n ≤ n + 1; omega⟩
          · rw [if_neg h3] at h
            cases h
theorem pItem_well (ws : List Str) : ∀ k, Good ws.length k (pItem ws k)
  | 0 => pAt_well fun f e => by cases e
  | k + 1 => pAt_well fun f e => ⟨k, rfl, by
    cases e
    exact pItem_well ws k⟩
mutual
theorem pl_clean : ∀ d : Dat, d.pl = true → d.clean = true
  | .non, _ => rfl
  | .bl _, h => by cases h
  | .int _, _ => rfl
  | .str _, _ => rfl
  | .emp, h => by cases h
  | .lst _, h => by cases h
  | .pap _ _ ds, h => rfl
  | .tup ds, h => plS_clean ds h
theorem plS_clean : ∀ ds : List Dat, plS ds = true → cleanS ds = true
  | [], _ => rfl
  | d :: r, h => by
    have h : (d.pl && plS r) = true := h
    rw [Bool.and_eq_true] at h
    show (d.clean && cleanS r) = true
    rw [Bool.and_eq_true]
    exact ⟨pl_clean d h.1, plS_clean r h.2⟩
end
theorem fix_pl {ds : List Dat} (h : plS ds = true) : fixS ds = ds := fixS_clean ds (plS_clean ds h)
end K6
end
section -- KIt1
set_option maxHeartbeats 4000000
/-! Items: stop, ahead, take, take_word. -/
namespace K6
open PySem PySem.Spec PyProof.Rows L2 NdefX
/-- what the written part says of Items -/
structure ItC (K : PySem.W.Frag) : Prop where
  cls : Cls K (He.ga K "Items")
  noW : NoAttr K (He.ga K "Items") "words"
  noA : NoAttr K (He.ga K "Items") "at"
  mt : ∀ m ∈ imeths, Meth K (He.ga K "Items") m (He.ma K (He.ga K "Items") m)
  mkr : Mk K (He.ga K "Items") (He.ma K (He.ga K "Items") "__init__")
def itO (K : PySem.W.Frag) (dx wl : Addr) (n : Nat) : HO := .ins (He.ga K "Items") dx [("words", .ref wl), ("at", .int (n : Int))]
structure ItS (K : PySem.W.Frag) (H : Hp) (it dx wl : Addr) (ws : List Str) (n : Nat) : Prop where
  it : H it = some (itO K dx wl n)
  wl : H wl = some (.lst (ws.map V.str))
theorem ItS.mono {K : PySem.W.Frag} {H H' : Hp} {it dx wl : Addr} {ws : List Str} {n : Nat} (h : ItS K H it dx wl ws n) (s : Same H H') : ItS K H' it dx wl ws n := ⟨s _ _ h.it, s _ _ h.wl⟩
theorem ItS.ne {K : PySem.W.Frag} {H : Hp} {it dx wl : Addr} {ws : List Str} {n : Nat} (h : ItS K H it dx wl ws n) : wl ≠ it := ne_of h.wl h.it (by intro z; cases z)
theorem ItS.at {K : PySem.W.Frag} {H H' : Hp} {it dx wl : Addr} {ws : List Str} {n m : Nat} (h : ItS K H it dx wl ws n) (s : SameBut it H H') (e : H' it = some (itO K dx wl m)) : ItS K H' it dx wl ws m := ⟨e, s _ _ h.ne h.wl⟩
theorem ItS.step {K : PySem.W.Frag} {H : Hp} {it dx wl : Addr} {ws : List Str} {n m : Nat} (h : ItS K H it dx wl ws n) : ItS K (upd H it (itO K dx wl m)) it dx wl ws m := h.at SameBut.upd upd_same
def optS : Option Str → V
  | some z => .str z
  | none => .non
/-- how a refusal leaves -/
def ErrT (K : PySem.W.Frag) (it : Addr) (H : Hp) (E : XK) (n : Nat) : Prop := ∀ H' x, SameBut it H H' → H' x = some (.xd [("word", .int (n : Int)), ("line", .int 0)]) → E (.ref (He.ga K "BadText")) (some x) H'
theorem ErrT.mono {K : PySem.W.Frag} {it : Addr} {H H1 : Hp} {E : XK} {n : Nat} (h : ErrT K it H E n) (s : SameBut it H H1) : ErrT K it H1 E n := fun H' x s' e => h H' x (s.trans s') e
section
variable {P : Program} {w : World} {K : PySem.W.Frag} {mg : Str → Option Value} {base : Heap}
/-- a method that keeps its promise, its arguments bound -/
def Mtd (P : Program) (w : World) (K : PySem.W.Frag) (mg : Str → Option Value) (base : Heap) (CX : CXT) (k : Nat) (m : Str) (ps : List Str) (sp : Sp) : Prop :=
  ∃ fd, FnOk P w K mg base CX k (He.ma K (He.ga K "Items") m) fd ps sp ∧ Binds K fd ps []
theorem Mtd.mono {CX : CXT} {k k' : Nat} {m : Str} {ps : List Str} {sp : Sp} (D : Mtd P w K mg base CX k m ps sp) (h : k ≤ k') : Mtd P w K mg base CX k' m ps sp := by
  obtain ⟨fd, F, b⟩ := D
  exact ⟨fd, ⟨F.len, fun A outer s H args us vs Q E hr => F.run A outer s H args us vs Q E (hr.mono h)⟩, b⟩
section
variable {X : Cx} {CX : CXT} {k : Nat} {m : Str} {ps : List Str} {sp : Sp} {E : XK} {o e : Expr} {es : List Expr} {ta : TE} {t : TA} {apos pos : Pos}
theorem pe_m {K : PySem.W.Frag} {pl : Sem Bool} (C : ItC K) (D : Mtd X.prog X.w K X.mg X.base CX k m ps sp) (hm : m ∈ imeths) (hr : Room k X.A) (hx : Passes CX X E) (he : PE X o ta) (ha : PA X (e :: es) t) (hK : X.K = K := by rfl)
    (hst : starEach (e :: es) X.env = (false, eval e X.env) :: starEach es X.env := by rfl) (hpl : (backTo pos (starEach es X.env)).any (·.1) = false := by rfl)
    (ht : eval (.Call (.Attribute o m apos) (e :: es) [] pos) X.env = (do
      let ov ← eval o X.env
      standAt apos.atName
      let (f, first) ← holding [ov] (getMethod ov m pl)
      callWith pos f first (backTo pos (starEach (e :: es) X.env)) (backToKw pos (keywordEach [] X.env))) := by rfl) : PE X (.Call (.Attribute o m apos) (e :: es) [] pos) (tMeth (He.ga K "Items") m sp [] E ta t) := by
  subst hK
  obtain ⟨fd, F, b⟩ := D
  exact pe_meth he C.cls (C.mt m hm) F hr b .nil hx ha hst hpl ht
theorem pe_m0 {K : PySem.W.Frag} {pl : Sem Bool} (C : ItC K) (D : Mtd X.prog X.w K X.mg X.base CX k m ps sp) (hm : m ∈ imeths) (hr : Room k X.A) (hx : Passes CX X E) (he : PE X o ta) (hK : X.K = K := by rfl)
    (ht : eval (.Call (.Attribute o m apos) [] [] pos) X.env = (do
      let ov ← eval o X.env
      standAt apos.atName
      let (f, first) ← holding [ov] (getMethod ov m pl)
      callWith pos f first (backTo pos (starEach [] X.env)) (backToKw pos (keywordEach [] X.env))) := by rfl) : PE X (.Call (.Attribute o m apos) [] [] pos) (tMeth (He.ga K "Items") m sp [] E ta tNil) := by
  subst hK
  obtain ⟨fd, F, b⟩ := D
  exact pe_meth0 he C.cls (C.mt m hm) F hr b .nil hx ht
end
/-- in a def that may raise: what a callee raises goes on -/
theorem passX {P : Program} {w : World} {K : PySem.W.Frag} {mg : Str → Option Value} {base : Heap} {N : List Str} {qual : Str} {scope : Scope} {f : Addr} {cd : Value} {A : Around} {outer : List Env} {s : Shared} {H : Hp} {E : XK} :
    Passes (L2.CX P w) (cxOf (L2.CX P w) P w K mg base N qual scope f cd A outer s H E) E := passes_call (takes_of rfl rfl rfl rfl) (fun _ _ _ _ h => h)
def spAhead (K : PySem.W.Frag) : Sp := fun vs H Q _ => ∃ it dx wl ws n, vs = [.ref it] ∧ ItS K H it dx wl ws n ∧ ws.length ≤ sizeLine ∧ Q (optS ws[n]?) H
def spStop (K : PySem.W.Frag) : Sp := fun vs H _ E => ∃ it dx wl ws n, vs = [.ref it] ∧ ItS K H it dx wl ws n ∧ ErrT K it H E n
def spTake (K : PySem.W.Frag) : Sp := fun vs H Q E => ∃ it dx wl ws n, vs = [.ref it] ∧ ItS K H it dx wl ws n ∧ ws.length ≤ sizeLine ∧ (∀ z, ws[n]? = some z → Q (.str z) (upd H it (itO K dx wl (n + 1)))) ∧ (ws[n]? = none → ErrT K it H E n)
def spTakeW (K : PySem.W.Frag) : Sp := fun vs H Q E => ∃ it dx wl ws n y, vs = [.ref it, .str y] ∧ ItS K H it dx wl ws n ∧ ws.length ≤ sizeLine ∧ (ws[n]? = some y → Q .non (upd H it (itO K dx wl (n + 1)))) ∧ (ws[n]? ≠ some y → ErrT K it H E n)
abbrev MT (K : PySem.W.Frag) (m qual : Str) (j : Nat) (fd : FuncData) : Prop := MtT K "Items" m qual 82 j fd
theorem sc_ahead : FnScope ["self"] ["self"] (defScope (inClass (top 82) 2)) := ⟨rfl, rfl, rfl, by decide +kernel, rfl, by decide +kernel, by decide +kernel⟩
theorem d_ahead (T : Txt w K mg) (C : ItC K) {fd : FuncData} (F : MT K "ahead" "Items.ahead" 2 fd) : Mtd P w K mg base CX0 1 "ahead" ["self"] (spAhead K) := by
  refine ⟨fd, F.ok sc_ahead (fun vs H Q E h => by obtain ⟨it, dx, wl, ws, n, rfl, _⟩ := h; rfl) fun cdv A outer s H vs Q E hr h => ?_, F.bindsN fun _ _ _ _ _ _ us hl => match us, hl with | [_], _ => rfl⟩
  have mL := T.z "len" (by decide +kernel)
  refine ⟨_, PSs.nox (pss_one (ps_ret (pe_ifExp (pt_cmpR op_lt (pe_fld (pv 0) rfl) (pe_callB call_len_seq rfl mL PySem.boot_len (pa_cons (pe_fld (pv 0) rfl) pa_nil)) (nomark _)) (pe_ix ix_list (pe_fld (pv 0) rfl) (pe_fld (pv 0) rfl) (fun _ _ => rfl)) pe_non))), ?_⟩
  obtain ⟨it, dx, wl, ws, n, rfl, S, hl, q⟩ := h
  refine ⟨_, rfl, it, _, dx, _, _, rfl, S.it, C.cls, C.noA, rfl, _, rfl, it, _, dx, _, _, rfl, S.it, C.cls, C.noW, rfl, wl, _, rfl, .inl (SqL.of S.wl), _, _, rfl, rfl, _, rfl, ?_⟩
  rw [List.length_map]
  cases e : ws[n]? with
  | none =>
    have hn : ws.length ≤ n := List.getElem?_eq_none_iff.mp e
    rw [e] at q
    rw [decide_eq_false (show ¬ (n : Int) < (ws.length : Int) by omega)]
    exact iteF q
  | some z =>
    have hn : n < ws.length := at_lt e
    rw [e] at q
    rw [decide_eq_true (show (n : Int) < (ws.length : Int) by omega)]
    refine iteT ⟨_, rfl, it, _, dx, _, _, rfl, S.it, C.cls, C.noW, rfl, _, rfl, it, _, dx, _, _, rfl, S.it, C.cls, C.noA, rfl, wl, _, _, .str z, rfl, rfl, SqL.of S.wl, atI_nat ?_, q⟩
    rw [List.getElem?_map, e]
    rfl
theorem sc_stop : FnScope ["self"] ["self"] (defScope (inClass (top 82) 1)) := ⟨rfl, rfl, rfl, by decide +kernel, rfl, by decide +kernel, by decide +kernel⟩
theorem d_stop (T : Txt w K mg) (C : ItC K) (O : XOk P w K mg base "BadText" ["self", "line", "word"] (spX2 K "BadText" "line" "word")) {fd : FuncData} (F : MT K "stop" "Items.stop" 1 fd) : Mtd P w K mg base (L2.CX P w) 3 "stop" ["self"] (spStop K) := by
  refine ⟨fd, F.ok sc_stop (fun vs H Q E h => by obtain ⟨it, dx, wl, ws, n, rfl, _⟩ := h; rfl) fun cdv A outer s H vs Q E hr h => ?_, F.bindsN fun _ _ _ _ _ _ us hl => match us, hl with | [_], _ => rfl⟩
  refine ⟨_, pss_one (ps_raiseX rfl O hr (takes_of rfl rfl rfl rfl) (pa_cons pe_int (pa_cons (pe_fld (pv 0) rfl) pa_nil))), ?_⟩
  obtain ⟨it, dx, wl, ws, n, rfl, S, q⟩ := h
  refine ⟨_, rfl, it, _, dx, _, _, rfl, S.it, C.cls, C.noA, rfl, ?_⟩
  exact made2 (by decide) fun H' d s' nd hd => q H' d (Same.but s') hd
theorem sc_take : FnScope ["self", "word"] ["self"] (defScope (inClass (top 82) 3)) := ⟨rfl, rfl, rfl, by decide +kernel, rfl, by decide +kernel, by decide +kernel⟩
theorem d_take (T : Txt w K mg) (C : ItC K) {k : Nat} (M1 : Mtd P w K mg base CX0 k "ahead" ["self"] (spAhead K)) (M2 : Mtd P w K mg base (L2.CX P w) k "stop" ["self"] (spStop K)) {fd : FuncData} (F : MT K "take" "Items.take" 3 fd) : Mtd P w K mg base (L2.CX P w) (k + 1) "take" ["self"] (spTake K) := by
  refine ⟨fd, F.ok sc_take (fun vs H Q E h => by obtain ⟨it, dx, wl, ws, n, rfl, _⟩ := h; rfl) fun cdv A outer s H vs Q E hr h => ?_, F.bindsN fun _ _ _ _ _ _ us hl => match us, hl with | [_], _ => rfl⟩
  refine ⟨_, pss_cons (ps_set (i := 1) sc_take.nd rfl (Or.inl rfl) (pe_m0 C M1 (by decide) hr pass0 (pv 0)))
    (pss_cons (ps_if (pt_cmpR op_isN (pv 1) pe_non (nomark _)) (pss_one (ps_expr (pe_m0 C M2 (by decide) hr passX (pv 0)))) pss_nil)
    (pss_cons (ps_fldaug (pv 0) pe_int in_add) (pss_one (ps_ret (pv 1))))), ?_⟩
  obtain ⟨it, dx, wl, ws, n, rfl, S, hl, q1, q2⟩ := h
  refine ⟨_, rfl, it, dx, _, rfl, S.it, rfl, it, dx, wl, ws, n, rfl, S, hl, ?_⟩
  refine ⟨_, rfl, rfl, _, rfl, ?_⟩
  cases e : ws[n]? with
  | none => exact iteT ⟨_, rfl, it, dx, _, rfl, S.it, rfl, it, dx, wl, ws, n, rfl, S, q2 e⟩
  | some z =>
    refine iteF ⟨_, rfl, it, _, dx, _, _, rfl, S.it, C.cls, C.noA, rfl, _, _, rfl, rfl, dx, _, S.it, (show 2 < 1000 by decide), ?_⟩
    exact ⟨_, rfl, q1 z e⟩
theorem sc_takeW : FnScope ["self", "word"] ["self", "word"] (defScope (inClass (top 82) 4)) := ⟨rfl, rfl, rfl, by decide +kernel, rfl, by decide +kernel, by decide +kernel⟩
theorem d_takeW (T : Txt w K mg) (C : ItC K) {k : Nat} (M1 : Mtd P w K mg base CX0 k "ahead" ["self"] (spAhead K)) (M2 : Mtd P w K mg base (L2.CX P w) k "stop" ["self"] (spStop K)) {fd : FuncData} (F : MT K "take_word" "Items.take_word" 4 fd) : Mtd P w K mg base (L2.CX P w) (k + 1) "take_word" ["self", "word"] (spTakeW K) := by
  refine ⟨fd, F.ok sc_takeW (fun vs H Q E h => by obtain ⟨it, dx, wl, ws, n, y, rfl, _⟩ := h; rfl) fun cdv A outer s H vs Q E hr h => ?_, F.bindsN fun _ _ _ _ _ _ us hl => match us, hl with | [_, _], _ => rfl⟩
  refine ⟨_, pss_cons (ps_if (pt_cmpR op_ne (pe_m0 C M1 (by decide) hr pass0 (pv 0)) (pv 1) (nomark _)) (pss_one (ps_expr (pe_m0 C M2 (by decide) hr passX (pv 0)))) pss_nil)
    (pss_one (ps_fldaug (pv 0) pe_int in_add)), ?_⟩
  obtain ⟨it, dx, wl, ws, n, y, rfl, S, hl, q1, q2⟩ := h
  refine ⟨_, rfl, it, dx, _, rfl, S.it, rfl, it, dx, wl, ws, n, rfl, S, hl, _, rfl, ?_⟩
  have hs : scal (optS ws[n]?) (.str y) = true := by cases ws[n]? <;> rfl
  refine ⟨hs, _, rfl, ?_⟩
  by_cases e : ws[n]? = some y
  · rw [e, decide_eq_true (show optS (some y) = V.str y from rfl)]
    refine iteF ⟨_, rfl, it, _, dx, _, _, rfl, S.it, C.cls, C.noA, rfl, _, _, rfl, rfl, dx, _, S.it, (show 2 < 1000 by decide), ?_⟩
    exact q1 e
  · rw [decide_eq_false (show ¬ optS ws[n]? = V.str y from fun z => e (by
      cases h : ws[n]? with
      | none =>
        rw [h] at z
        cases z
      | some u =>
        rw [h] at z
        rw [V.str.inj z]))]
    exact iteT ⟨_, rfl, it, dx, _, rfl, S.it, rfl, it, dx, wl, ws, n, rfl, S, q2 e⟩
end
end K6
end
section -- KCompX
set_option maxHeartbeats 4000000
/-! A list comprehension whose element may raise: the exception goes on through the def around it. -/
namespace K6
open PySem PySem.Spec PyProof.Rows L2
open PySem.HandSPX (FlyingZ HeldZ TracedZ)
/-- noting a frame hangs on the frame's address alone -/
theorem noteFrame_same {e : Value} {env env' : Env} (h : env'.frame = env.frame) : noteFrame e env' = noteFrame e env := by
  unfold noteFrame PySem.frameOf
  rw [h]
theorem passOn_same {α : Type} {what : String} {e : Value} {env env' : Env} (h : env'.frame = env.frame) : (PySem.passOn what e env' : Sem α) = PySem.passOn what e env := by
  unfold PySem.passOn
  rw [h]
/-- what lies behind a comprehension's block -/
def post2 (M : Model) (A : Around) (E : Value → Shared → Prop) (Q : Value → Shared → Prop) (acc : Value) (cenv : Env) (r : Result) (s' : Shared) : Prop :=
  match r with
  | .ok _ => ∃ m, s'.heap.Ns cenv.locals m ∧ ∀ h', Heap.SameBut cenv.locals s'.heap h' → Q acc { s' with heap := h' }
  | .error x => ∃ m, s'.heap.Ns cenv.locals m ∧ ∀ h', Heap.SameBut cenv.locals s'.heap h' → wpAny M A (PySem.passOn "comprehension.variables-let-go" x cenv : Sem Value) (fun _ _ => False) E { s' with heap := h' }
section
variable {M : Model} {A : Around} {E : Value → Shared → Prop} {s : Shared} {env : Env}
theorem comp_free2 {e : Expr} {scope : Scope} {pos : Pos} {newAcc first : Sem Value} {g : Comprehension} {gs : List Comprehension} {cl : List (Str × Addr)} {Q : Value → Shared → Prop}
    (hcl : clausesOf e = g :: gs) (hs : ∀ x, foldedSetIterable g.iter env x = pure x) (hclos : closureFor scope env = pure cl) (hkind : scope.kind = .function) (hnames : ∀ x ∈ scope.names, x.2 = .local → scope.names.lookup x.1 = some .local)
    (h : wpAny M A first (fun x s₁ => wpAny M A (pyIter x) (fun it s₂ => wpAny M A newAcc (fun acc s₃ =>
      wpAny M A (newFunctionEnv scope env.globals cl [] env.qual none .none (some env)) (fun cenv s₄ =>
        codeAny M A (.compStart e 0 it acc { cenv with scope := relabel scope env }) (post2 M A E Q acc { cenv with scope := relabel scope env }) s₄) E s₃) E s₂) E s₁) E s) :
    wpAny M A (comprehension e scope env pos newAcc false first none) Q E s := by
  unfold comprehension
  rw [hclos, hcl]
  refine wpAny_bind (wpAny_mono h (fun x s₁ h₁ => ?_) fun _ _ y => y)
  refine wpAny_bind (wpAny_standAt (wpAny_bind (wpAny_of_eq (hs x) ?_)))
  refine wpAny_bind (wpAny_holding (wpAny_mono h₁ (fun it s₂ h₂ => ?_) fun _ _ y => y))
  refine wpAny_standIf (wpAny_bind (wpAny_mono h₂ (fun acc s₃ h₃ => ?_) fun _ _ y => y))
  refine wpAny_bind (wpAny_pure (wpAny_bind (wpAny_mono h₃ (fun cenv s₄ h₄ => ?_) fun _ _ y => y)))
  dsimp only
  have hv : ∀ x ∈ (scope.names.filter fun x => (x.2 == .local || x.2 == .cell) && x.1 != (".0" : Str)).reverse, x.2 = .local → Env.kindOf { cenv with scope := relabel scope env } x.1 = some .local :=
    fun x hx hl => lookup_relabel_local (hnames x (List.mem_filter.mp (List.mem_reverse.mp hx)).1 hl)
  refine wpAny_holding (wpAny_bind (wpAny_attempt (wpAny_holding (wpAny_run (codeAny_mono h₄ fun r s' hr => ?_)))))
  cases r with
  | ok f =>
    obtain ⟨m, hn, hr⟩ := hr
    exact wpAny_bind (wpAny_holding (wpAny_comp_letGo (cenv := { cenv with scope := relabel scope env }) hkind _ s' m hv hn fun h' m' _ hs' => wpAny_pure (hr h' hs')))
  | error x =>
    obtain ⟨m, hn, hr⟩ := hr
    exact wpAny_bind (wpAny_holding (wpAny_comp_letGo (cenv := { cenv with scope := relabel scope env }) hkind _ s' m hv hn fun h' m' _ hs' => wpAny_mono (hr h' hs') (fun _ _ f => f.elim) fun _ _ y => y))
end
/-- an exception in the air of a block (it has flown already) -/
def XB (X : Cx) (E : XK) (u : Value) (s' : Shared) : Prop :=
  ∃ (a : Addr) (B : Heap) (sI : Shared) (pins : List (Addr × Obj)) (σ : L2.St) (H : Hp) (cls : Value) (d : Option Addr),
    u = .ref a ∧ Inv X pins σ H sI ∧ (∀ b o, sI.heap.get? b = some o → b ∉ frs X.stack → B.get? b = some o) ∧ sI.heap.UpToSlots s'.heap ∧
      FlyingZ B X.stack a (Zc cls d) s'.heap ∧ H a = none ∧ s'.os = sI.os ∧ AllBare s'.gens ∧ E cls d H
section
variable {X : Cx} {pins : List (Addr × Obj)} {σ : L2.St} {H : Hp} {s s' : Shared} {E : XK}
theorem XB.of_call (I : Inv X pins σ H s) {u : Value} (c : L2.CX X.prog X.w X.stack H s E u s') : XB X E u s' := by
  obtain ⟨a, B, H', cls, d, rfl, fl, hok, ub, na, os, ag, hE⟩ := c
  obtain ⟨G, g1, g2⟩ := restrict s'.heap fun b => (B.get? b).isSome || decide (b ∈ frs X.stack)
  have st : B.StaysIn s'.heap := fl.1
  have gB : ∀ b o, B.get? b = some o → G.get? b = some o := fun b o e => by
    rw [g1 b (by simp [e])]
    exact st b o e
  have gF : ∀ b, b ∈ frs X.stack → G.get? b = s'.heap.get? b := fun b hb => g1 b (by simp [hb])
  have og : ∀ b o, G.get? b = some o → s'.heap.get? b = some o ∧ ((B.get? b).isSome = true ∨ b ∈ frs X.stack) := fun b o e => by
    cases q : ((B.get? b).isSome || decide (b ∈ frs X.stack)) with
    | false =>
      rw [g2 b q] at e
      cases e
    | true =>
      rw [g1 b q] at e
      exact ⟨e, by simpa [Bool.or_eq_true] using q⟩
  have un : Un (frs X.stack) [] H H' s.heap G := {
    keep := fun b o e n hb _ => gB b o (ub.keep b o e n hb)
    slot := fun b o e n hb _ => by
      obtain ⟨sl, q⟩ := ub.slot b o e hb
      exact ⟨sl, by rw [gF b hb]; exact q⟩
    free := fun b o e n _ => ub.free b o e n
    there := fun b o e _ => by
      by_cases hb : b ∈ frs X.stack
      · obtain ⟨sl, q⟩ := ub.slot b o e hb
        exact ⟨_, by rw [gF b hb]; exact q⟩
      · obtain ⟨o', q⟩ := ub.there b o e hb
        exact ⟨o', gB b o' q⟩
    tups := ub.tups
    frzs := ub.frzs
    tbls := ub.tbls }
  have J := I.call (g' := s'.gens) (t' := s'.toks) (d' := s'.drawn) (ch := []) un (hok.kept gB) ag (fun _ z => nomatch z)
  refine ⟨a, B, _, pins, σ, H', cls, d, rfl, J, fun b o e hb => ?_, Heap.UpToSlots.of_keeps fun b o e => (og b o e).1, fl, na, os, ag, hE⟩
  obtain ⟨e', h⟩ := og b o e
  rcases h with h | h
  · obtain ⟨o', q⟩ := Option.isSome_iff_exists.mp h
    have z := st b o' q
    rw [e'] at z
    cases z
    exact q
  · exact absurd h hb
end
/-- a block from which exceptions go -/
abbrev blkX (X : Cx) (s : Shared) (H : Hp) (scope : Scope) (cenv : Env) (fp : List Addr) (E : XK) : Cx := (X.blk s H scope cenv fp).wish (XB (X.blk s H scope cenv fp) E)
theorem passes_blk {X : Cx} {s : Shared} {H : Hp} {scope : Scope} {cenv : Env} {fp : List Addr} {E : XK} : Passes (L2.CX X.prog X.w) (blkX X s H scope cenv fp E) E :=
  fun pins σ H1 s1 e s' I c => XB.of_call (X := X.blk s H scope cenv fp) (I.unwish) c
section
variable {X : Cx}
/-- the exception leaves the block: noted by the def's frame, handed on; then it is in the air of the def -/
theorem blk_leaves {pins : List (Addr × Obj)} {σ : L2.St} {H3 : Hp} {s3 s' : Shared} {scope : Scope} {ce : Env} {fp : List Addr} {E : XK} {W : WX} {u : Value} {Q : Value → Shared → Prop} {acc : Value}
    (hs : X.stack = X.env :: X.outer) (hf : X.env.frame = some X.env.locals) (tk : Takes X W) (hW : ∀ cls d σ H, E cls d H → W cls d σ H) (I3 : Inv X pins σ H3 s3)
    (f3 : ∀ b ∈ fp, FpOk X pins H3 b ∧ b < s3.heap.objs.size) (cL : ce.locals = s3.heap.objs.size) (cF : ce.frame = X.env.frame) (x : XB (X.blk s3 H3 scope ce fp) E u s') :
    wpAny (model X.prog X.w) X.A (noteFrame u ce) (fun _ s'' => post2 (model X.prog X.w) X.A X.xe Q acc ce (.error u) s'') (fun e s'' => post2 (model X.prog X.w) X.A X.xe Q acc ce (.error e) s'') s' := by
  obtain ⟨a, B, sI, pins', σ', H', cls, d, rfl, I', nb, up, fl, na, os, ag, hE⟩ := x
  have nb : ∀ b o, sI.heap.get? b = some o → b ∉ frs X.stack → B.get? b = some o := nb
  have fl : FlyingZ B X.stack a (Zc cls d) s'.heap := fl
  have hfr : X.A.frames = some (X.env :: X.outer) := by rw [I3.ok.frames, hs]
  rw [noteFrame_same cF]
  rw [hs] at fl
  refine HandSPX.looks_onZ Zc.steady hfr hf fl fun h1 hh1 up1 => ?_
  -- the block's own variables
  obtain ⟨m, hn, _⟩ := I'.loc
  have hn : sI.heap.Ns ce.locals m := hn
  rw [cL] at hn
  have nC : H' s3.heap.objs.size = none := by
    have z : H' ce.locals = none := I'.free
    rw [cL] at z
    exact z
  generalize hC : s3.heap.objs.size = C at hn nC cL
  have hn1 : h1.Ns C m := by
    have q := up.ns hn
    exact up1.ns q
  show ∃ m, h1.Ns ce.locals m ∧ ∀ h', Heap.SameBut ce.locals h1 h' → wpAny (model X.prog X.w) X.A (PySem.passOn "comprehension.variables-let-go" (.ref a) ce : Sem Value) (fun _ _ => False) X.xe { s' with heap := h' }
  rw [cL]
  refine ⟨m, hn1, fun h2 sb => ?_⟩
  rw [passOn_same cF]
  -- the ground without the block's variables
  obtain ⟨G, g1, g2⟩ := restrict sI.heap fun b => decide (b ≠ C)
  have gk : ∀ b, b ≠ C → G.get? b = sI.heap.get? b := fun b hb => g1 b (decide_eq_true hb)
  have gC : G.get? C = none := g2 C (by simp)
  obtain ⟨B2, b1, b2⟩ := restrict B fun b => decide (b ≠ C)
  have bk : ∀ b, b ≠ C → B2.get? b = B.get? b := fun b hb => b1 b (decide_eq_true hb)
  have bC : B2.get? C = none := b2 C (by simp)
  have bsub : ∀ b o, B2.get? b = some o → b ≠ C ∧ B.get? b = some o := fun b o e => by
    have hb : b ≠ C := fun z => by
      rw [z, bC] at e
      cases e
    exact ⟨hb, (bk b hb).symm.trans e⟩
  have lt3 : ∀ b o, s3.heap.get? b = some o → b ≠ C := fun b o e => by
    rw [← hC]
    exact Nat.ne_of_lt (Heap.lt_size e)
  have frC : C ∉ frs X.stack := fun hm => by
    obtain ⟨_, o, ho, _⟩ := I3.stack.mem hm
    exact lt3 C o ho rfl
  have base' : Un (frs X.stack) fp H3 H' s3.heap sI.heap := I'.base
  have un : Un (frs X.stack) fp H3 H' s3.heap G := {
    keep := fun b o e n hb hx => by
      rw [gk b (lt3 b o e)]
      exact base'.keep b o e n hb hx
    slot := fun b o e n hb hx => by
      rw [gk b (lt3 b o e)]
      exact base'.slot b o e n hb hx
    free := base'.free
    there := fun b o e hx => by
      rw [gk b (lt3 b o e)]
      exact base'.there b o e hx
    tups := base'.tups
    frzs := base'.frzs
    tbls := base'.tbls }
  have hok : HOk X.prog X.w H' G := fun b o e => by
    have nb : b ≠ C := fun z => by
      rw [z, nC] at e
      cases e
    refine (I'.hok b o e).stay (fun c v hc q => ?_) (fun _ q => q) fun _ _ q => q
    have ncC : c ≠ C := by
      rcases hc with hc | hc
      · rw [hc]
        exact nb
      · intro z
        rw [z, nC] at hc
        cases hc
    rw [gk c ncC]
    exact q
  have J : Inv X pins σ H' { sI with heap := G } := I3.call' (s' := { sI with heap := G }) (ch := fp) I'.os un hok I'.bare fun b hb => ⟨(f3 b hb).1.2.2.2.1, (f3 b hb).1.2.1, (f3 b hb).1.2.2.2.2.1, (f3 b hb).1.2.2.2.2.2⟩
  obtain ⟨st1, ne1, ff1, tr1⟩ := hh1
  have oth : ∀ b, b ≠ C → h2.get? b = h1.get? b := sb.2
  have st2 : B2.StaysIn h2 := fun b o e => by
    obtain ⟨hb, e'⟩ := bsub b o e
    rw [oth b hb]
    exact st1 b o e'
  have aC : a ≠ C := fun z => by
    obtain ⟨oe, vs, _, _, _, he, _, hd, _⟩ := tr1
    obtain ⟨o, es, ep, ho, hd', _⟩ := hn1
    rw [z] at he
    rw [he] at ho
    cases ho
    rw [hd] at hd'
    cases hd'
  have ne2 : B2.get? a = none := by
    rw [bk a aC]
    exact ne1
  have ff2 : h2.FunFrames B2 (X.env :: X.outer) := by
    have f1 : h2.FunFrames B (X.env :: X.outer) := by
      have all : ∀ l : List Env, (∀ b ∈ frs l, b ≠ C) → h1.FunFrames B l → h2.FunFrames B l := by
        intro l
        induction l with
        | nil => exact fun _ z => z
        | cons env l ih =>
          intro hc hl
          obtain ⟨hk, ⟨L, o, hL, hnn, ho, hdd⟩, hr⟩ := hl
          have hm : L ∈ frs (env :: l) := List.mem_filterMap.mpr ⟨env, List.mem_cons_self, hL⟩
          refine ⟨hk, ⟨L, o, hL, hnn, (oth L (hc L hm)).trans ho, hdd⟩, ih (fun b hb => hc b ?_) hr⟩
          obtain ⟨e', he', q'⟩ := List.mem_filterMap.mp hb
          exact List.mem_filterMap.mpr ⟨e', List.mem_cons_of_mem _ he', q'⟩
      refine all _ (fun b hb z => ?_) ff1
      rw [← hs] at hb
      exact frC (z ▸ hb)
    refine funFrames_none f1 fun b hb => ?_
    have hbC : b ≠ C := fun z => by
      rw [← hs] at hb
      exact frC (z ▸ hb)
    rw [bk b hbC]
    exact (ff1.mem hb).1
  have tr2 : TracedZ h2 B2 a (Zc cls d) (rawInt X.env.locals) := by
    obtain ⟨oe, vs, T, oT, ts, he, hz, hd, h1', hnT, hTe, hT, hdT, h3⟩ := tr1
    have hTC : T ≠ C := fun z => by
      obtain ⟨o, es, ep, ho, hd', _⟩ := hn1
      rw [z] at hT
      rw [hT] at ho
      cases ho
      rw [hdT] at hd'
      cases hd'
    exact ⟨oe, vs, T, oT, ts, (oth a aC).trans he, hz, hd, h1', by rw [bk T hTC]; exact hnT, hTe, (oth T hTC).trans hT, hdT, h3⟩
  have up2 : G.UpToSlots h2 := fun b o e hd => by
    have hb : b ≠ C := fun z => by
      rw [z, gC] at e
      cases e
    rw [gk b hb] at e
    obtain ⟨sl, q⟩ := (up.trans up1) b o e hd
    exact ⟨sl, (oth b hb).trans q⟩
  have nb2 : ∀ b o, G.get? b = some o → b ∉ frs X.stack → B2.get? b = some o := fun b o e hb => by
    have hbC : b ≠ C := fun z => by
      rw [z, gC] at e
      cases e
    rw [bk b hbC]
    exact nb b o ((gk b hbC).symm.trans e) hb
  obtain ⟨oe, vs, T, oT, ts, he, hz, hd, h1', hnT, hTe, hT, hdT, h3⟩ := id tr2
  unfold PySem.passOn
  refine wpAny_bind (wpAny_field he hd h1' ?_)
  rw [if_neg (show ¬ ((Value.ref T == Value.none) = true) from by simp)]
  have fin : wpAny (model X.prog X.w) X.A (setFlight (.ref a) X.env.frame) (fun _ s4 => wpAny (model X.prog X.w) X.A (throw (.ref a) : Sem Value) (fun _ _ => False) X.xe s4) X.xe { s' with heap := h2 } := by
    rw [hf]
    refine HandSPX.setFlight_onZ (base := B2) (l := X.env :: X.outer) (Z := Zc cls d) ⟨st2, ne2, ff2, tr2⟩ fun h4 hh4 up4 => wpAny_throw (tk _ _ ?_)
    exact ⟨a, B2, _, pins, σ, H', cls, d, rfl, J, nb2, up2.trans up4, .inr (.inr (by rw [hs]; exact hh4)), na, os, ag, hW _ _ _ _ hE⟩
  first
    | exact wpAny_bind (wpAny_pure (wpAny_bind fin))
    | exact wpAny_bind fin
end
section
variable {X : Cx}
/-- [elt for target in iter], elt perhaps raising -/
theorem pe_lcX {elt tg iter : Expr} {scope : Scope} {own : List (Str × Nat)} {pos : Pos} {wi : TI} {g : TG} {te : TE} {E : XK} {W : WX} (hc : X.calm = true) (hN : X.N.Nodup) (hst : X.stack = X.env :: X.outer) (hfr : X.env.frame = some X.env.locals)
    (tk : Takes X W) (hW : ∀ cls d σ H, E cls d H → W cls d σ H) (hi : PI X tg iter wi) (ok : BlkOk X.N X.env.scope scope own)
    (hg : ∀ (s : Shared) (H : Hp) (C : Addr) (cl : List (Str × Addr)) (fp : List Addr), PG (X.blk s H scope (compEnvC scope cl C X.env) fp) tg g)
    (he : ∀ (s : Shared) (H : Hp) (C : Addr) (cl : List (Str × Addr)) (fp : List Addr), PE (blkX X s H scope (compEnvC scope cl C X.env) fp E) elt te) (hs : ∀ x, foldedSetIterable iter X.env x = pure x := by intro _; rfl) :
    PE X (.ListComp elt [⟨tg, iter, [], 0⟩] scope pos) (tLc wi g tYes te (own.map (·.2))) := by
  refine ⟨fun pins s σ H Q I h => ?_⟩
  rw [eval_ListComp]
  have hfree : ∀ y ∈ scope.names, y.2 = .free → ∃ c, X.env.cells.lookup y.1 = some c := fun y hy e => by
    rcases ok.free y hy e with k | k
    · exact I.ok.has _ (.inl k)
    · exact I.ok.has _ (.inr k)
  refine comp_free2 rfl hs (closure_ok hfree) ok.kind (fun y hy e => by rw [ok.uniq y hy, e]) (thn (hi.run pins s σ H _ I h) fun xv s1 hx => thn hx fun itv s2 h2 => ?_)
  obtain ⟨it, fp, tn, J, H2, e, I2, T, st2, f2, q⟩ := h2
  subst e
  refine wpAny_newObj_type (newEnv_comp ?_) (by show 0 ≤ sizeLine; decide)
  generalize hD : s2.heap.objs.size = D
  have hDn : H2 D = none := I2.hok.fresh (Nat.le_of_eq hD)
  obtain ⟨Wv, ⟨m0, w0⟩, turn⟩ := q D hDn
  generalize hs3 : ({ s2 with heap := s2.heap.push { cls := .type "list", data := .seq ([] : List Value).toArray } } : Shared) = s3
  have I3 : Inv X pins σ (upd H2 D (.lst [])) s3 := by
    rw [← hs3]
    refine I2.laid (t' := s2.toks) (fun b o e => Heap.get?_push_of_some _ e) (Nat.le_of_eq hD) ⟨Nat.zero_le _, [], 0, .nil, ?_⟩
    rw [← hD]
    exact Heap.get?_push_size _ rfl
  have h3 : s3.heap = s2.heap.push { cls := .type "list", data := .seq ([] : List Value).toArray } := by rw [← hs3]
  have sz : ∀ b ∈ fp, b < s2.heap.objs.size := fun b hb => by
    obtain ⟨o, e, _⟩ := T.obj _ _ st2 b hb
    exact Heap.lt_size e
  have f3 : ∀ b ∈ fp, FpOk X pins (upd H2 D (.lst [])) b ∧ b < s3.heap.objs.size := fun b hb => by
    have hlt := sz b hb
    refine ⟨⟨?_, (f2 b hb).2⟩, by rw [h3, Heap.size_push]; exact Nat.lt_succ_of_lt hlt⟩
    rw [upd_ne (by rw [← hD]; exact Nat.ne_of_lt hlt)]
    exact (f2 b hb).1
  have st3 : tn 0 s3.heap := T.keep _ _ _ st2 fun b _ o e => by rw [h3]; exact Heap.get?_push_of_some _ e
  have I4 := block_start I3 ok hN f3
  have pg := hg s3 (upd H2 D (.lst [])) s3.heap.objs.size (cellsFrom (s3.heap.objs.size + 1) scope.names (cloFrom X.env.cells scope.names [])) fp
  have pe := he s3 (upd H2 D (.lst [])) s3.heap.objs.size (cellsFrom (s3.heap.objs.size + 1) scope.names (cloFrom X.env.cells scope.names [])) fp
  show codeAny _ _ (.compStart (.ListComp elt [⟨tg, iter, [], 0⟩] scope pos) 0 (.ref it) (.ref D) (compEnvC scope (cellsFrom (s3.heap.objs.size + 1) scope.names (cloFrom X.env.cells scope.names [])) s3.heap.objs.size X.env))
    (post2 (model X.prog X.w) X.A X.xe (EP X pins σ Q) (.ref D) (compEnvC scope (cellsFrom (s3.heap.objs.size + 1) scope.names (cloFrom X.env.cells scope.names [])) s3.heap.objs.size X.env)) { s3 with heap := pushCells (s3.heap.push { cls := .type "dict", data := .dict #[] }) scope.names }
  have nfp : ∀ b ∈ fp, (upd H2 D (.lst [])) b = none := fun b hb => (f3 b hb).1.1
  generalize hce : compEnvC scope (cellsFrom (s3.heap.objs.size + 1) scope.names (cloFrom X.env.cells scope.names [])) s3.heap.objs.size X.env = ce at I4 pg pe ⊢
  have cL : ce.locals = s3.heap.objs.size := by
    subst hce
    rfl
  have cF : ce.frame = X.env.frame := by
    subst hce
    rfl
  generalize hH3 : upd H2 D (.lst []) = H3 at I3 I4 pg pe w0 nfp f3
  generalize hs4 : ({ s3 with heap := pushCells (s3.heap.push { cls := .type "dict", data := .dict #[] }) scope.names } : Shared) = s4 at I4 ⊢
  have st4 : tn 0 s4.heap := T.keep _ _ _ st3 fun b _ o e => by rw [← hs4]; exact pushCells_keeps _ _ _ _ (Heap.get?_push_of_some _ e)
  have stat : ∀ {σ' : L2.St} {H' : Hp} {s' : Shared}, Inv (X.blk s3 H3 scope ce fp) [] σ' H' s' → (∀ b ∈ fp, H' b = none) → ∀ b ∈ fp, FpOk (X.blk s3 H3 scope ce fp) [] H' b := fun {σ' H' s'} I' hn b hb =>
    ⟨hn b hb, (I'.ok.exf b hb).1, I'.ok.exfs b hb, .inl hb, fun x c e => (I'.ok.exf b hb).2 x c e, fun p hp => absurd (show p ∈ ([] : List (Addr × Obj)) ++ [] from hp) (by simp)⟩
  have loop : codeAny (model X.prog X.w) X.A (.compLoop (.ListComp elt [⟨tg, iter, [], 0⟩] scope pos) 0 (.ref it) (.ref D) ce) (post2 (model X.prog X.w) X.A X.xe (EP X pins σ Q) (.ref D) ce) s4 := by
    refine compLoop_any (fun n s' => ∃ i H', Inv (X.blk s3 H3 scope ce fp) [] (wipe σ (own.map (·.2))) H' s' ∧ tn i s'.heap ∧ (∀ b ∈ fp, H' b = none) ∧ Wv i n H') ?_ m0 ⟨0, H3, I4, st4, nfp, w0⟩
    rintro n s5 ⟨i, H5, I5, st5, n5, w5⟩
    rcases turn i n H5 w5 with ⟨stop, qq⟩ | ⟨go, Nx, hNx, step⟩
    · have td := T.done (X.blk s3 H3 scope ce fp) rfl rfl rfl hc i [] s5 _ H5 (fun _ _ => False) I5 (stat I5 n5) st5 stop
      refine thnF td fun r s6 ⟨hr, I6⟩ => ?_
      subst hr
      have I7 : Inv X pins σ H5 s6 := I3.call' (ch := fp) I6.os I6.base I6.hok I6.bare fun b hb => ⟨(f3 b hb).1.2.2.2.1, (f3 b hb).1.2.1, (f3 b hb).1.2.2.2.2.1, (f3 b hb).1.2.2.2.2.2⟩
      have nC : H5 s3.heap.objs.size = none := by
        have z : H5 ce.locals = none := I6.free
        rw [cL] at z
        exact z
      obtain ⟨m, hn, _⟩ := I6.loc
      have hn : s6.heap.Ns ce.locals m := hn
      obtain ⟨f0, f1, f2', f3', f4, f5⟩ := I3.fpOk (Nat.le_refl _) nC
      rw [← cL] at f0 f1 f2' f3' f4 f5
      exact ⟨m, hn, fun h'' sb => ⟨.ref D, H5, I7.turned (t' := s6.toks) (fun b o hb e => (sb.2 b hb).trans e) f0 f1 f3' f4 f5, rfl, qq⟩⟩
    · have ti := T.item (X.blk s3 H3 scope ce fp) rfl rfl rfl hc i [] s5 _ H5 (fun _ _ => False) I5 (stat I5 n5) st5 go
      refine thnF ti fun r s6 ⟨u, hr, h6⟩ => ?_
      subst hr
      refine thnF h6 fun _ s7 ⟨x, H7, I7, r7, y7, st7, n7⟩ => ?_
      have I7' := I7.pinned (stat I7 n7) (T.obj _ _ st7)
      refine thnF (pg.run _ s7 _ H7 x u _ I7' r7 (step x H7 y7)) fun _ s8 ⟨σ8, H8, I8, hw8, q8⟩ => ?_
      have q8 : (te σ8 H8 fun y H4 => ∃ acc, H4 D = some (.lst acc) ∧ acc.length < sizeLine ∧ Nx (upd H4 D (.lst (acc ++ [y])))) := q8
      refine wpAny_tests_nil ?_
      have fin : ∀ {s' : Shared} {H' : Hp}, Inv (X.blk s3 H3 scope ce fp) ([] ++ pinsAt fp s7.heap) σ8 H' s' → Nx H' → ∃ m, m < n ∧ ∃ i H', Inv (X.blk s3 H3 scope ce fp) [] (wipe σ (own.map (·.2))) H' s' ∧ tn i s'.heap ∧ (∀ b ∈ fp, H' b = none) ∧ Wv i m H' := fun {s' H'} I' nx => by
        obtain ⟨m', hm, w'⟩ := hNx H' nx
        have pin' : ∀ b ∈ fp, ∀ o, s7.heap.get? b = some o → s'.heap.get? b = some o ∧ H' b = none := fun b hb o e =>
          let z := I'.pin (b, o) (List.mem_append_right _ (List.mem_append_right _ (mem_pinsAt hb e)))
          ⟨z.1, z.2.1⟩
        have hl : (wipe σ (own.map (·.2))).length = σ8.length := by rw [← hw8, wipe_length]
        refine ⟨m', hm, i + 1, H', (I'.unpinned (pins := [])).weak hl (fun j v e => ?_), T.keep _ _ _ st7 fun b hb o e => (pin' b hb o e).1, fun b hb => ?_, w'⟩
        · rw [← hw8] at e
          exact (wipe_some e).1
        · obtain ⟨o, e, _⟩ := T.obj _ _ st7 b hb
          exact (pin' b hb o e).2
      simp only [if_true]
      have air : ∀ e s', XB (X.blk s3 H3 scope ce fp) E e s' → notedBy (model X.prog X.w) X.A ce (fun e s' => post2 (model X.prog X.w) X.A X.xe (EP X pins σ Q) (.ref D) ce (.error e) s') e s' := fun e s' x =>
        blk_leaves hst hfr tk hW I3 f3 cL cF x
      refine wpAny_mono (pe.run _ s8 σ8 H8 _ (I8.wish _) q8) (fun z s10 ⟨yv, H10, I10, r10, acc, hD10, hz10, nx⟩ => ?_) fun e s' x => air e s' x
      exact app_ok (X := X.blk s3 H3 scope ce fp) (I10.unwish) hD10 hz10 r10 fun s11 I11 => fin I11 nx
  exact codeAny_compStart_list loop (T.self X.A 0 _ _ _ st4 loop)
end
end K6
end
section -- KIt2
set_option maxHeartbeats 4000000
/-! Items: take_item, take_paper. -/
namespace K6
open PySem PySem.Spec PyProof.Rows L2 NdefX
section
variable {P : Program} {w : World} {K : PySem.W.Frag} {mg : Str → Option Value} {base : Heap}
/-- the words that are read: not too many, none too long -/
structure Wds (ws : List Str) : Prop where
  n : ws.length + 10 ≤ sizeLine
  z : ∀ z ∈ ws, z.length ≤ sizeLine
/-- what comes of reading -/
def Got (K : PySem.W.Frag) (it dx wl : Addr) (r : Rs Dat) (H : Hp) (Q : VK) (E : XK) : Prop := match r with
  | .ok (d, m) => ∀ H' v, SameBut it H H' → H' it = some (itO K dx wl m) → RpK K H' v d → Q v H'
  | .error e => ErrT K it H E e
theorem Got.mono {it dx wl : Addr} {r : Rs Dat} {H H1 : Hp} {Q : VK} {E : XK} (h : Got K it dx wl r H Q E) (s : SameBut it H H1) : Got K it dx wl r H1 Q E := by
  cases r with
  | error e => exact ErrT.mono h s
  | ok p =>
    obtain ⟨d, m⟩ := p
    exact fun H' v s' e r => h H' v (s.trans s') e r
def spItem (K : PySem.W.Frag) (d : Nat) : Sp := fun vs H Q E => ∃ it dx wl ws n, vs = [.ref it, .int (d : Int)] ∧ ItS K H it dx wl ws n ∧ Wds ws ∧ Got K it dx wl (pItem ws d n) H Q E
def spPaper (K : PySem.W.Frag) (d : Nat) : Sp := fun vs H Q E => ∃ it dx wl ws n, vs = [.ref it, .int (d : Int)] ∧ ItS K H it dx wl ws n ∧ Wds ws ∧ Got K it dx wl (pPaper ws (pItem ws d) n) H Q E
/-- take_deep at a bracket -/
def deepR (ws : List Str) (d n : Nat) (z : Str) : Rs Dat := match d with
  | 0 => .error n
  | k + 1 => pDeep ws (pItem ws k) z n
def spDeep (K : PySem.W.Frag) (d : Nat) : Sp := fun vs H Q E => ∃ it dx wl ws n z, vs = [.ref it, .int (d : Int)] ∧ ItS K H it dx wl ws n ∧ Wds ws ∧ ws[n]? = some z ∧ (z = ("(" : Str) ∨ z = ("[" : Str)) ∧ Got K it dx wl (deepR ws d n z) H Q E
def lvl (sp : Nat → Sp) : Nat → Sp
  | 0 => fun _ _ _ _ => False
  | n + 1 => sp n
theorem mtd_no {CX : CXT} {k : Nat} {m qual : Str} {j : Nat} {fd : FuncData} {ps : List Str} (F : MT K m qual j fd)
    (hb : ∀ (kV doc pm : Value) (an : Option Addr) (cdv ct : Value) (us : List Value), us.length = ps.length → bindArgs (PySem.W.fnOf m qual (defArgs (inClass (top 82) j)) (defBody (inClass (top 82) j)) (defScope (inClass (top 82) j)) .none kV doc pm an cdv ct) ⟨us, []⟩ = pure (ps.zip us)) : Mtd P w K mg base CX k m ps (fun _ _ _ _ => False) :=
  ⟨fd, ⟨fun _ _ _ _ h => h.elim, fun _ _ _ _ _ _ _ _ _ _ _ _ _ h => h.elim⟩, F.bindsN hb⟩
theorem fig_range : ∀ x ∈ ("0123456789" : Str).cps.toList, 48 ≤ x ∧ x ≤ 57 := by decide +kernel
theorem wr_parts {l : List Nat} (h : isWrL l = true) : NumText.AllDigits (figs l) ∧ figs l ≠ [] ∧ (figs l).length ≤ 4000 := by
  unfold isWrL at h
  generalize figs l = g at h
  cases g with
  | nil => cases h
  | cons c r =>
    have h : (decide (r.length < 4000) && (c :: r).all (fun x => decide (x ∈ ("0123456789" : Str).cps.toList)) && (decide (l = [48]) || !decide (c = 48))) = true := h
    rw [Bool.and_eq_true, Bool.and_eq_true] at h
    refine ⟨fun x hx => fig_range x (of_decide_eq_true (List.all_eq_true.mp h.1.2 x hx)), List.cons_ne_nil _ _, ?_⟩
    have := of_decide_eq_true h.1.1
    rw [List.length_cons]
    omega
theorem figs_or (l : List Nat) : l = figs l ∨ l = 45 :: figs l := by
  match l with
  | [] => exact .inl rfl
  | c :: r =>
    by_cases hc : c = 45
    · subst hc
      exact .inr rfl
    · refine .inl ?_
      unfold figs
      split
      · rename_i z2
        exact absurd (List.cons.inj z2).1 hc
      · rfl
theorem isWr_int {z : Str} (h : isWr z = true) : PySem.intText? z = some (valW z) ∧ z.cps.all (· < 128) = true := by
  obtain ⟨h1, h2, h3⟩ := wr_parts h
  have hl : z.length = z.cps.toList.length := by simp [PySem.Str.length]
  have some_ : ∀ {o : Option Int} {n : Int}, PySem.intText? z = some n → PySem.intText? z = some (valW z) := fun {o n} e => by
    unfold valW
    rw [e]
    rfl
  rcases figs_or z.cps.toList with e | e
  · refine ⟨some_ (o := none) (PySem.intText_digits (by rw [e]; exact h1) (by rw [e]; exact h2) (by rw [hl, e]; omega)), ?_⟩
    rw [← Array.all_toList]
    refine List.all_eq_true.mpr fun x hx => ?_
    rw [e] at hx
    have := h1 x hx
    exact decide_eq_true (by omega)
  · refine ⟨some_ (o := none) (PySem.intText_neg e h1 h2 (by rw [hl, e, List.length_cons]; omega)), ?_⟩
    rw [← Array.all_toList]
    refine List.all_eq_true.mpr fun x hx => ?_
    rw [e] at hx
    rcases List.mem_cons.mp hx with rfl | hx
    · rfl
    · have := h1 x hx
      exact decide_eq_true (by omega)
theorem pItem_eq {ws : List Str} {d n : Nat} : pItem ws d n = match ws[n]? with
    | none => .error n
    | some z => if z = ("(" : Str) ∨ z = ("[" : Str) then deepR ws d n z else if z = ("-" : Str) then .ok (.non, n + 1) else if isWr z = true then .ok (.int (valW z), n + 1) else if isNm z = true then .ok (.str z, n + 1) else .error n := by
  cases d with
  | zero =>
    show pAt ws none n = _
    unfold pAt
    cases ws[n]? <;> rfl
  | succ d =>
    show pAt ws (some (pItem ws d)) n = _
    unfold pAt
    cases ws[n]? <;> rfl
theorem sc_item : FnScope ["self", "deep", "word"] ["self", "deep"] (defScope (inClass (top 82) 6)) := ⟨rfl, rfl, rfl, by decide +kernel, rfl, by decide +kernel, by decide +kernel⟩
theorem optS_at {ws : List Str} {n : Nat} {z : Str} (h : ws[n]? = some z) : optS ws[n]? = .str z := by rw [h]; rfl
theorem d_item (T : Txt w K mg) (C : ItC K) {fdW fdN : FuncData} (FW : FnT K "is_written" 81 fdW) (FN : FnT K "is_name" 5 fdN) {k d : Nat} (M1 : Mtd P w K mg base CX0 (k + 1) "ahead" ["self"] (spAhead K)) (M2 : Mtd P w K mg base (L2.CX P w) (k + 1) "stop" ["self"] (spStop K))
    (MD : Mtd P w K mg base (L2.CX P w) (k + 1) "take_deep" ["self", "deep"] (spDeep K d)) {fd : FuncData} (F : MT K "take_item" "Items.take_item" 6 fd) : Mtd P w K mg base (L2.CX P w) (k + 2) "take_item" ["self", "deep"] (spItem K d) := by
  refine ⟨fd, F.ok sc_item (fun vs H Q E h => by obtain ⟨it, dx, wl, ws, n, rfl, _⟩ := h; rfl) fun cdv A outer s H vs Q E hr h => ?_, F.bindsN fun _ _ _ _ _ _ us hl => match us, hl with | [_, _], _ => rfl⟩
  have mN := T.z "int" (by decide +kernel)
  have DW := (d_wr (P := P) (base := base) T FW).mono (k' := k + 1) (by omega)
  have DN := (d_isName (P := P) (base := base) T FN).mono (k' := k + 1) (by omega)
  refine ⟨_, pss_cons (ps_set (i := 2) sc_item.nd rfl (Or.inl rfl) (pe_m0 C M1 (by decide) hr pass0 (pv 0)))
    (pss_cons (ps_if (pt_cmpR op_in_seq (pv 2) (pe_tup (pa_cons pe_str (pa_cons pe_str pa_nil))) (by rfl)) (pss_one (ps_ret (pe_m C MD (by decide) hr passX (pv 0) (pa_cons (pv 1) pa_nil)))) pss_nil)
    (pss_cons (ps_if (PW.pt (pw_or (pt_cmpR op_isN (pv 2) pe_non (nomark _)) (pw_or1 (PW.pt (pw_and (pt_cmpR op_ne (pv 2) pe_str (nomark _)) (pw_and (pt_not (pt_val (pe_d DW hr pass0 (pa_cons (pv 2) pa_nil)))) (pw_and1 (pt_not (pt_val (pe_d DN hr pass0 (pa_cons (pv 2) pa_nil)))))))))))
      (pss_one (ps_expr (pe_m0 C M2 (by decide) hr passX (pv 0)))) pss_nil)
    (pss_cons (ps_fldaug (pv 0) pe_int in_add)
    (pss_cons (ps_if (pt_cmpR op_eq (pv 2) pe_str (nomark _)) (pss_one (ps_ret pe_non)) pss_nil)
    (pss_one (ps_ret (pe_ifExp (pt_val (pe_d DW hr pass0 (pa_cons (pv 2) pa_nil))) (pe_callTy (call_int_strL T.dg) rfl mN (by decide +kernel) (pa_cons (pv 2) pa_nil)) (pv 2)))))))), ?_⟩
  obtain ⟨it, dx, wl, ws, n, rfl, S, hw, q⟩ := h
  rw [pItem_eq] at q
  refine ⟨_, rfl, it, dx, _, rfl, S.it, rfl, it, dx, wl, ws, n, rfl, S, (by have := hw.n; omega), ?_⟩
  refine ⟨_, rfl, (by show 2 ≤ sizeLine; decide), fun p np => ?_⟩
  have s1 : Same H (upd H p (.tup [.str "(", .str "["])) := Same.new np
  have S1 := S.mono s1
  have hp : upd H p (.tup [.str "(", .str "["]) p = some (.tup [.str "(", .str "["]) := upd_same
  have q := q.mono (Same.but s1)
  generalize upd H p (.tup [.str "(", .str "["]) = H1 at s1 S1 hp q
  cases e : ws[n]? with
  | none =>
    rw [e] at q
    refine ⟨p, _, rfl, .inr (SqT.of hp), rfl, rfl, _, rfl, ?_⟩
    refine iteF ⟨_, rfl, rfl, _, rfl, iteT ?_⟩
    exact iteT ⟨_, rfl, it, dx, _, rfl, S1.it, rfl, it, dx, wl, ws, n, rfl, S1, q⟩
  | some z =>
    rw [e] at q
    have q : Got K it dx wl (if z = ("(" : Str) ∨ z = ("[" : Str) then deepR ws d n z else if z = ("-" : Str) then .ok (.non, n + 1) else if isWr z = true then .ok (.int (valW z), n + 1) else if isNm z = true then .ok (.str z, n + 1) else .error n) H1 Q E := q
    have hz : z.length ≤ sizeLine := hw.z z (List.mem_of_getElem? e)
    refine ⟨p, _, rfl, .inr (SqT.of hp), rfl, rfl, _, rfl, ?_⟩
    by_cases hb : z = ("(" : Str) ∨ z = ("[" : Str)
    · have ev : inV (.str z) [.str "(", .str "["] = true := by rcases hb with rfl | rfl <;> decide +kernel
      have q : Got K it dx wl (deepR ws d n z) H1 Q E := by
        rw [if_pos hb] at q
        exact q
      show if inV (.str z) [.str "(", .str "["] = true then _ else _
      rw [ev]
      refine iteT ⟨_, rfl, it, dx, _, rfl, S1.it, rfl, _, rfl, it, dx, wl, ws, n, z, rfl, S1, hw, e, hb, q⟩
    · have ev : inV (.str z) [.str "(", .str "["] = false := by
        show ((("(" : Str) == z) || ((("[" : Str) == z) || false)) = false
        have h1 : (("(" : Str) == z) = false := by
          simp only [beq_eq_false_iff_ne]
          exact fun h => hb (.inl h.symm)
        have h2 : (("[" : Str) == z) = false := by
          simp only [beq_eq_false_iff_ne]
          exact fun h => hb (.inr h.symm)
        rw [h1, h2] <;> rfl
      rw [if_neg hb] at q
      show if inV (.str z) [.str "(", .str "["] = true then _ else _
      rw [ev]
      refine iteF ⟨_, rfl, rfl, _, rfl, iteF ?_⟩
      by_cases hm : z = ("-" : Str)
      · rw [if_pos hm] at q
        refine ⟨_, rfl, rfl, _, rfl, ?_⟩
        have ed : decide (V.str z = V.str "-") = true := decide_eq_true (by rw [hm])
        show if (!decide (V.str z = V.str "-")) = true then _ else _
        rw [ed]
        refine iteF (iteF ⟨_, rfl, it, _, dx, _, _, rfl, S1.it, C.cls, C.noA, rfl, _, _, rfl, rfl, dx, _, S1.it, (show 2 < 1000 by decide), ?_⟩)
        refine ⟨_, rfl, rfl, _, rfl, ?_⟩
        show if decide (V.str z = V.str "-") = true then _ else _
        rw [ed]
        exact iteT (q _ _ SameBut.upd upd_same .non)
      · rw [if_neg hm] at q
        have ed : decide (V.str z = V.str "-") = false := decide_eq_false fun h => hm (V.str.inj h)
        refine ⟨_, rfl, rfl, _, rfl, ?_⟩
        show if (!decide (V.str z = V.str "-")) = true then _ else _
        rw [ed]
        refine iteT ⟨_, rfl, z, rfl, hz, fun H2 s2 => ⟨_, rfl, ?_⟩⟩
        have S2 := S1.mono s2
        by_cases h1 : isWr z = true
        · rw [if_pos h1] at q
          rw [h1]
          refine iteF (iteF ⟨_, rfl, it, _, dx, _, _, rfl, S2.it, C.cls, C.noA, rfl, _, _, rfl, rfl, dx, _, S2.it, (show 2 < 1000 by decide), ?_⟩)
          refine ⟨_, rfl, rfl, _, rfl, ?_⟩
          show if decide (V.str z = V.str "-") = true then _ else _
          rw [ed]
          refine iteF ⟨_, rfl, z, rfl, hz, fun H3 s3 => ⟨_, rfl, ?_⟩⟩
          rw [h1]
          refine iteT ⟨_, rfl, z, valW z, rfl, (isWr_int h1).1, hz, (isWr_int h1).2, ?_⟩
          exact q H3 _ ((Same.but s2).trans (SameBut.upd.trans (Same.but s3))) (s3 _ _ upd_same) (.int _)
        · rw [if_neg h1] at q
          rw [Bool.not_eq_true] at h1
          rw [h1]
          refine iteT ⟨_, rfl, .str z, .str z, rfl, .str z, rfl, fun y e => by cases e; exact hz, fun H3 s3 => ⟨_, rfl, ?_⟩⟩
          have S3 := S2.mono s3
          have en : isName (.str z) = isNm z := rfl
          rw [en]
          by_cases h2 : isNm z = true
          · rw [if_pos h2] at q
            rw [h2]
            refine iteF ⟨_, rfl, it, _, dx, _, _, rfl, S3.it, C.cls, C.noA, rfl, _, _, rfl, rfl, dx, _, S3.it, (show 2 < 1000 by decide), ?_⟩
            refine ⟨_, rfl, rfl, _, rfl, ?_⟩
            show if decide (V.str z = V.str "-") = true then _ else _
            rw [ed]
            refine iteF ⟨_, rfl, z, rfl, hz, fun H4 s4 => ⟨_, rfl, ?_⟩⟩
            rw [h1]
            refine iteF ⟨_, rfl, ?_⟩
            exact q H4 _ ((Same.but (s2.trans s3)).trans (SameBut.upd.trans (Same.but s4))) (s4 _ _ upd_same) (.str z)
          · rw [if_neg h2] at q
            rw [Bool.not_eq_true] at h2
            rw [h2]
            exact iteT ⟨_, rfl, it, dx, _, rfl, S3.it, rfl, it, dx, wl, ws, n, rfl, S3, ErrT.mono q (Same.but (s2.trans s3))⟩
end
end K6
end
section -- KIt3
set_option maxHeartbeats 4000000
/-! Items: take_paper, take_deep. -/
namespace K6
open PySem PySem.Spec PyProof.Rows L2 NdefX
section
variable {P : Program} {w : World} {K : PySem.W.Frag} {mg : Str → Option Value} {base : Heap}
theorem same_step {H H' : Hp} {it : Addr} {o : HO} (s : SameBut it H H') (e : H' it = some o) : Same (upd H it o) H' := fun b u h => by
  by_cases hb : b = it
  · subst hb
    rw [upd_same] at h
    rw [e]
    exact h
  · rw [upd_ne hb] at h
    exact s b u hb h
theorem Rps.step {H H' : Hp} {it dx wl : Addr} {ws : List Str} {n m : Nat} {vs : List V} {ds : List Dat} (S : ItS K H it dx wl ws n) (s : SameBut it H H') (e : H' it = some (itO K dx wl m)) (r : RpsK K H vs ds) : RpsK K H' vs ds :=
  (r.butI S.it rfl).mono (same_step s e)
theorem pSeq_ok {f : Rd1} {n m k : Nat} {d : Dat} {acc : List Dat} (h : f n = .ok (d, m)) : pSeq f (k + 1) n acc = pSeq f k m (acc ++ [d]) := by
  show (match f n with
    | .error e => (.error e : Rs (List Dat))
    | .ok (d, m) => pSeq f k m (acc ++ [d])) = _
  rw [h]
theorem pSeq_err {f : Rd1} {n k e : Nat} {acc : List Dat} (h : f n = .error e) : pSeq f (k + 1) n acc = .error e := by
  show (match f n with
    | .error e => (.error e : Rs (List Dat))
    | .ok (d, m) => pSeq f k m (acc ++ [d])) = _
  rw [h]
theorem sc_paper : FnScope ["self", "deep", "many", "word", "_"] ["self", "deep"] (defScope (inClass (top 82) 5)) := ⟨rfl, rfl, rfl, by decide +kernel, rfl, by decide +kernel, by decide +kernel⟩
theorem rp_optS {H : Hp} {ws : List Str} {n : Nat} : ∃ d, RpK K H (optS ws[n]?) d ∧ d.okc = true ∧ pcnt d = (ws[n]?).bind fun z => counts.lookup z := by
  cases ws[n]? with
  | none => exact ⟨.non, .non, rfl, rfl⟩
  | some z => exact ⟨.str z, .str z, rfl, rfl⟩
theorem d_paper (T : Txt w K mg) (C : ItC K) {fdC : FuncData} (FC : FnT K "parts_count" 72 fdC) {k d : Nat} (hd20 : d ≤ 20) (M1 : Mtd P w K mg base CX0 (k + 1) "ahead" ["self"] (spAhead K)) (M2 : Mtd P w K mg base (L2.CX P w) (k + 1) "stop" ["self"] (spStop K))
    (M3 : Mtd P w K mg base (L2.CX P w) (k + 1) "take" ["self"] (spTake K)) (MI : Mtd P w K mg base (L2.CX P w) (k + 1) "take_item" ["self", "deep"] (spItem K d)) (DM : Dfn P w K mg base CX0 (k + 1) "made" ["word", "some"] (spMade K 20)) {fd : FuncData} (F : MT K "take_paper" "Items.take_paper" 5 fd) :
    Mtd P w K mg base (L2.CX P w) (k + 2) "take_paper" ["self", "deep"] (spPaper K d) := by
  refine ⟨fd, F.ok sc_paper (fun vs H Q E h => by obtain ⟨it, dx, wl, ws, n, rfl, _⟩ := h; rfl) fun cdv A outer s H vs Q E hr h => ?_, F.bindsN fun _ _ _ _ _ _ us hl => match us, hl with | [_, _], _ => rfl⟩
  have mR := T.z "range" (by decide +kernel)
  have DC := (d_count (P := P) (base := base) T FC).mono (k' := k + 1) (by omega)
  refine ⟨_, pss_cons (ps_set (i := 2) sc_paper.nd rfl (Or.inl rfl) (pe_d DC hr pass0 (pa_cons (pe_m0 C M1 (by decide) hr pass0 (pv 0)) pa_nil)))
    (pss_cons (ps_if (pt_cmpR op_isN (pv 2) pe_non (nomark _)) (pss_one (ps_expr (pe_m0 C M2 (by decide) hr passX (pv 0)))) pss_nil)
    (pss_cons (ps_set (i := 3) sc_paper.nd rfl (Or.inl rfl) (pe_m0 C M3 (by decide) hr passX (pv 0)))
    (pss_one (ps_ret (pe_d DM hr pass0 (pa_cons (pv 3) (pa_cons (pe_lcX (E := E) (own := [("_", 4)]) (g := gName 4) rfl sc_paper.nd rfl rfl (takes_of rfl rfl rfl rfl) (fun _ _ _ _ h => h) (pi_range1 rfl mR (pa_cons (pv 2) pa_nil)) (blkOk_by (own := [("_", 4)]) (N := ["self", "deep", "many", "word", "_"]) (sc := defScope (inClass (top 82) 5)) (by decide +kernel))
      (fun _ _ _ _ _ => pg_name (i := 4) sc_paper.nd rfl (Or.inl rfl)) (fun _ _ _ _ _ => by exact pe_m C MI (by decide) hr passes_blk (pv 0) (pa_cons (pv 1) pa_nil))) pa_nil))))))), ?_⟩
  obtain ⟨it, dx, wl, ws, n, rfl, S, hw, q⟩ := h
  have hwn := hw.n
  obtain ⟨pd, rpd, okpd, hpd⟩ := rp_optS (K := K) (H := H) (ws := ws) (n := n)
  refine ⟨_, rfl, it, dx, _, rfl, S.it, rfl, it, dx, wl, ws, n, rfl, S, (by omega), _, pd, rfl, rpd, okpd, ?_⟩
  rw [hpd]
  refine ⟨_, rfl, rfl, _, rfl, ?_⟩
  unfold pPaper at q
  cases e : ws[n]? with
  | none =>
    rw [e] at q
    exact iteT ⟨_, rfl, it, dx, _, rfl, S.it, rfl, it, dx, wl, ws, n, rfl, S, q⟩
  | some z =>
    rw [e] at q
    have q : Got K it dx wl (match counts.lookup z with
      | none => .error n
      | some k => match pSeq (pItem ws d) k (n + 1) [] with
        | .error e => .error e
        | .ok (ds, m) => .ok (.pap ((wnum z).getD 0) z ds, m)) H Q E := q
    show if decide (optV (counts.lookup z) = .non) = true then _ else _
    cases ec : counts.lookup z with
    | none =>
      rw [ec] at q
      exact iteT ⟨_, rfl, it, dx, _, rfl, S.it, rfl, it, dx, wl, ws, n, rfl, S, q⟩
    | some c =>
      rw [ec] at q
      have q : Got K it dx wl (match pSeq (pItem ws d) c (n + 1) [] with
        | .error e => .error e
        | .ok (ds, m) => .ok (.pap ((wnum z).getD 0) z ds, m)) H Q E := q
      refine iteF ?_
      refine ⟨_, rfl, it, dx, _, rfl, S.it, rfl, it, dx, wl, ws, n, rfl, S, (by omega), fun y hy => ?_, fun hy => by rw [e] at hy; cases hy⟩
      obtain rfl : z = y := Option.some.inj (e.symm.trans hy)
      have S1 : ItS K (upd H it (itO K dx wl (n + 1))) it dx wl ws (n + 1) := S.step
      have sb1 : SameBut it H (upd H it (itO K dx wl (n + 1))) := SameBut.upd
      generalize upd H it (itO K dx wl (n + 1)) = H1 at S1 sb1
      obtain ⟨w1, w2, w3⟩ := wnum_lt ec
      have hc7 : c ≤ 7 := by
        have g : ∀ q ∈ counts, q.2 ≤ 7 := by decide +kernel
        exact g _ (lookup_memK ec)
      refine ⟨_, rfl, _, rfl, (c : Int), (show [optV (counts.lookup z)] = [V.int (c : Int)] by rw [ec]; rfl), by omega, by omega, fun D nD => ?_⟩
      have cN : ((c : Int)).toNat = c := by omega
      rw [cN]
      have itD : it ≠ D := ne_of_none S1.it nD
      have wlD : wl ≠ D := ne_of_none S1.wl nD
      have g := pItem_well ws d
      refine lc_range (lo := 0) (n := c) (fun i H' => ∃ (ds : List Dat) (ni : Nat) (vs : List V), ds.length = i ∧ H' D = some (.lst vs) ∧ RpsK K H' vs ds ∧ WellS d (n + 1) ws.length ds ni ∧ ItS K H' it dx wl ws ni ∧ SameBut it H1 H' ∧ pSeq (pItem ws d) c (n + 1) [] = pSeq (pItem ws d) (c - i) ni ds)
        ⟨[], n + 1, [], rfl, upd_same, .nil, wellS_nil, ⟨by rw [upd_ne itD]; exact S1.it, by rw [upd_ne wlD]; exact S1.wl⟩, fun b o hb e2 => by rw [upd_ne (ne_of_none e2 nD)]; exact e2, rfl⟩ (fun i H' hi h => ?_) fun H' h => ?_
      · obtain ⟨ds, ni, vs, hl, hD, rs, wl_, S2, sb2, eq⟩ := h
        refine ⟨rfl, ?_⟩
        refine ⟨_, rfl, it, dx, _, rfl, S2.it, rfl, _, rfl, it, dx, wl, ws, ni, rfl, S2, hw, ?_⟩
        obtain ⟨j, hj⟩ : ∃ j, c - i = j + 1 := ⟨c - i - 1, by omega⟩
        rw [hj] at eq
        cases ef : pItem ws d ni with
        | error x =>
          have eq2 : pSeq (pItem ws d) c (n + 1) [] = .error x := by
            rw [eq, pSeq_err ef]
          rw [eq2] at q
          exact ErrT.mono q (sb1.trans sb2)
        | ok p =>
          obtain ⟨dd, m⟩ := p
          have eq2 : pSeq (pItem ws d) c (n + 1) [] = pSeq (pItem ws d) j m (ds ++ [dd]) := by
            rw [eq, pSeq_ok ef]
          intro H'' v sb3 e3 rv
          have w2 := wellS_snoc wl_ (g ni dd m ef)
          have hD3 : H'' D = some (.lst vs) := sb3 _ _ itD.symm hD
          refine ⟨vs, hD3, ?_, ds ++ [dd], m, vs ++ [v], by rw [List.length_append, hl]; rfl, upd_same, ?_, w2, ⟨by rw [upd_ne itD]; exact e3, by rw [upd_ne wlD]; exact sb3 _ _ S2.ne S2.wl⟩, fun b o hb e4 => ?_, by rw [eq2, show c - (i + 1) = j by omega]⟩
          · rw [rs.len, hl]
            show i < sizeLine
            omega
          · exact Rps.but hD3 (plS_nl _ w2.pl) ((Rps.step S2 sb3 e3 rs).snoc rv)
          · rw [upd_ne (ne_of_none e4 nD)]
            exact sb3 b o hb (sb2 b o hb e4)
      · obtain ⟨ds, ni, vs, hl, hD, rs, wl_, S2, sb2, eq⟩ := h
        rw [Nat.sub_self] at eq
        have eq2 : pSeq (pItem ws d) c (n + 1) [] = .ok (ds, ni) := eq
        rw [eq2] at q
        have hcn := wl_.cn
        have hle := wl_.lL (by have := at_lt e; omega)
        have hdp := wl_.dp
        refine ⟨z, _, D, vs, ds, rfl, w2, hD, by rw [rs.len, hl, w3], rs, wl_.ok, by omega, by omega, fun H'' v s3 rv => ?_⟩
        rw [fix_pl wl_.pl] at rv
        exact q H'' v ((sb1.trans sb2).trans (Same.but s3)) (s3 _ _ S2.it) rv
end
end K6
end
section -- KIt4
set_option maxHeartbeats 4000000
/-! Items: take_deep; all levels. -/
namespace K6
open PySem PySem.Spec PyProof.Rows L2 NdefX
theorem pLoop_end {ws : List Str} {f : Rd1} {k n : Nat} {acc : List Dat} (h : ws[n]? = some (")" : Str)) : pLoop ws f k n acc = .ok (acc, n + 1) := by
  unfold pLoop
  rw [if_pos h]
theorem pLoop_zero {ws : List Str} {f : Rd1} {n : Nat} {acc : List Dat} (h : ws[n]? ≠ some (")" : Str)) : pLoop ws f 0 n acc = .error n := by
  unfold pLoop
  rw [if_neg h]
theorem pLoop_ok {ws : List Str} {f : Rd1} {k n m : Nat} {d : Dat} {acc : List Dat} (h : ws[n]? ≠ some (")" : Str)) (e : f n = .ok (d, m)) : pLoop ws f (k + 1) n acc = pLoop ws f k m (acc ++ [d]) := by
  conv => lhs; unfold pLoop
  rw [if_neg h]
  simp only [e]
theorem pLoop_err {ws : List Str} {f : Rd1} {k n x : Nat} {acc : List Dat} (h : ws[n]? ≠ some (")" : Str)) (e : f n = .error x) : pLoop ws f (k + 1) n acc = .error x := by
  conv => lhs; unfold pLoop
  rw [if_neg h]
  simp only [e]
section
variable {P : Program} {w : World} {K : PySem.W.Frag} {mg : Str → Option Value} {base : Heap}
theorem sc_deep : FnScope ["self", "deep", "found"] ["self", "deep"] (defScope (inClass (top 82) 7)) := ⟨rfl, rfl, rfl, by decide +kernel, rfl, by decide +kernel, by decide +kernel⟩
theorem d_deep (T : Txt w K mg) (C : ItC K) {k d : Nat} (M1 : Mtd P w K mg base CX0 k "ahead" ["self"] (spAhead K)) (M2 : Mtd P w K mg base (L2.CX P w) k "stop" ["self"] (spStop K)) (M3 : Mtd P w K mg base (L2.CX P w) k "take" ["self"] (spTake K)) (M4 : Mtd P w K mg base (L2.CX P w) k "take_word" ["self", "word"] (spTakeW K))
    (MI : Mtd P w K mg base (L2.CX P w) k "take_item" ["self", "deep"] (lvl (spItem K) d)) (MP : Mtd P w K mg base (L2.CX P w) k "take_paper" ["self", "deep"] (lvl (spPaper K) d)) {fd : FuncData} (F : MT K "take_deep" "Items.take_deep" 7 fd) :
    Mtd P w K mg base (L2.CX P w) (k + 1) "take_deep" ["self", "deep"] (spDeep K d) := by
  refine ⟨fd, F.ok sc_deep (fun vs H Q E h => by obtain ⟨it, dx, wl, ws, n, z, rfl, _⟩ := h; rfl) fun cdv A outer s H vs Q E hr h => ?_, F.bindsN fun _ _ _ _ _ _ us hl => match us, hl with | [_, _], _ => rfl⟩
  have mT := T.z "tuple" (by decide +kernel)
  refine ⟨_, pss_cons (ps_if (pt_cmpR op_eq (pv 1) pe_int (nomark _)) (pss_one (ps_expr (pe_m0 C M2 (by decide) hr passX (pv 0)))) pss_nil)
    (pss_cons (ps_if (pt_cmpR op_eq (pe_m0 C M3 (by decide) hr passX (pv 0)) pe_str (nomark _))
      (pss_cons (ps_set (i := 2) sc_deep.nd rfl (Or.inl rfl) (pe_m C MP (by decide) hr passX (pv 0) (pa_cons (pe_op op_sub (pv 1) pe_int) pa_nil)))
      (pss_cons (ps_expr (pe_m C M4 (by decide) hr passX (pv 0) (pa_cons pe_str pa_nil))) (pss_one (ps_ret (pv 2))))) pss_nil)
    (pss_cons (ps_set (i := 2) sc_deep.nd rfl (Or.inl rfl) (pe_lst pa_nil))
    (pss_cons (ps_while (passes_of rfl) (pt_cmpR op_ne (pe_m0 C M1 (by decide) hr pass0 (pv 0)) pe_str (nomark _))
      (pss_one (ps_expr (pe_bm PySem.F.plainAttrs_list PySem.F.slot_list_append PySem.F.type_list_append mt_append (pv 2) (pa_cons (pe_m C MI (by decide) hr passX (pv 0) (pa_cons (pe_op op_sub (pv 1) pe_int) pa_nil)) pa_nil)))))
    (pss_cons (ps_fldaug (pv 0) pe_int in_add)
    (pss_one (ps_ret (pe_callTy call_tuple_of rfl mT (by decide +kernel) (pa_cons (pv 2) pa_nil)))))))), ?_⟩
  obtain ⟨it, dx, wl, ws, n, z, rfl, S, hw, e, hb, q⟩ := h
  have hwn := hw.n
  refine ⟨_, rfl, rfl, _, rfl, ?_⟩
  cases d with
  | zero =>
    rw [decide_eq_true (show V.int ((0 : Nat) : Int) = V.int 0 from rfl)]
    exact iteT ⟨_, rfl, it, dx, _, rfl, S.it, rfl, it, dx, wl, ws, n, rfl, S, q⟩
  | succ d =>
    have q : Got K it dx wl (pDeep ws (pItem ws d) z n) H Q E := q
    have sub1 : ((d + 1 : Nat) : Int) - 1 = (d : Int) := by omega
    rw [decide_eq_false (show ¬ V.int ((d + 1 : Nat) : Int) = V.int 0 from fun z => by
      have z2 := V.int.inj z
      omega)]
    refine iteF ⟨_, rfl, it, dx, _, rfl, S.it, rfl, it, dx, wl, ws, n, rfl, S, by omega, fun y hy => ?_, fun hy => by rw [e] at hy; cases hy⟩
    obtain rfl : z = y := Option.some.inj (e.symm.trans hy)
    have S1 : ItS K (upd H it (itO K dx wl (n + 1))) it dx wl ws (n + 1) := S.step
    have sb1 : SameBut it H (upd H it (itO K dx wl (n + 1))) := SameBut.upd
    generalize upd H it (itO K dx wl (n + 1)) = H1 at S1 sb1
    have hn1 : n + 1 ≤ ws.length := by have := at_lt e; omega
    unfold pDeep at q
    refine ⟨rfl, _, rfl, ?_⟩
    show if decide (V.str z = V.str "[") = true then _ else _
    by_cases hq : z = ("[" : Str)
    · rw [if_pos hq] at q
      rw [decide_eq_true (show V.str z = V.str "[" by rw [hq])]
      refine iteT ⟨_, rfl, it, dx, _, rfl, S1.it, rfl, _, rfl, _, _, rfl, rfl, it, dx, wl, ws, n + 1, (show [V.ref it, V.int (((d + 1 : Nat) : Int) - 1)] = [V.ref it, V.int (d : Int)] by rw [sub1]), S1, hw, ?_⟩
      cases ep : pPaper ws (pItem ws d) (n + 1) with
      | error x =>
        rw [ep] at q
        exact ErrT.mono q sb1
      | ok p =>
        obtain ⟨pp, m⟩ := p
        rw [ep] at q
        have q : Got K it dx wl (if ws[m]? = some ("]" : Str) then .ok (pp, m + 1) else .error m) H Q E := q
        intro H2 v sb2 e2 rv
        have S2 := S1.at sb2 e2
        refine ⟨_, rfl, it, dx, _, rfl, S2.it, rfl, it, dx, wl, ws, m, "]", rfl, S2, by omega, fun h1 => ?_, fun h1 => ?_⟩
        · rw [if_pos h1] at q
          refine ⟨_, rfl, ?_⟩
          exact q _ v ((sb1.trans sb2).trans SameBut.upd) upd_same (rv.butI S2.it rfl)
        · rw [if_neg h1] at q
          exact ErrT.mono q (sb1.trans sb2)
    · rw [if_neg hq] at q
      rw [decide_eq_false (show ¬ V.str z = V.str "[" from fun h => hq (V.str.inj h))]
      refine iteF ⟨(by show 0 ≤ sizeLine; decide), fun f0 nf => ?_⟩
      have itf : it ≠ f0 := ne_of_none S1.it nf
      have wlf : wl ≠ f0 := ne_of_none S1.wl nf
      have g := pItem_well ws d
      refine ⟨fun kk σ H' => ∃ (ds : List Dat) (ni : Nat) (vs : List V), σ = [some (.ref it), some (.int ((d + 1 : Nat) : Int)), some (.ref f0)] ∧ H' f0 = some (.lst vs) ∧ RpsK K H' vs ds ∧ WellS d (n + 1) ws.length ds ni ∧ ItS K H' it dx wl ws ni ∧ SameBut it H1 H' ∧ pLoop ws (pItem ws d) (ws.length + 1) (n + 1) [] = pLoop ws (pItem ws d) kk ni ds ∧ ws.length < ni + kk,
        ⟨ws.length + 1, [], n + 1, [], rfl, upd_same, .nil, wellS_nil, ⟨by rw [upd_ne itf]; exact S1.it, by rw [upd_ne wlf]; exact S1.wl⟩, fun b o hb e2 => by rw [upd_ne (ne_of_none e2 nf)]; exact e2, rfl, by omega⟩, fun kk σ H' h => ?_⟩
      obtain ⟨ds, ni, vs, rfl, hf, rs, wl_, S2, sb2, eq, hk⟩ := h
      have hni := wl_.lL hn1
      refine ⟨_, rfl, it, dx, _, rfl, S2.it, rfl, it, dx, wl, ws, ni, rfl, S2, by omega, ?_⟩
      have hs : scal (optS ws[ni]?) (.str ")") = true := by cases ws[ni]? <;> rfl
      refine ⟨hs, _, rfl, ?_⟩
      by_cases he : ws[ni]? = some (")" : Str)
      · rw [he, decide_eq_true (show optS (some (")" : Str)) = V.str ")" from rfl)]
        rw [eq, pLoop_end he] at q
        refine iteF ⟨_, rfl, it, _, dx, _, _, rfl, S2.it, C.cls, C.noA, rfl, _, _, rfl, rfl, dx, _, S2.it, (show 2 < 1000 by decide), ?_⟩
        have h3 : upd H' it (itO K dx wl (ni + 1)) f0 = some (.lst vs) := by rw [upd_ne itf.symm]; exact hf
        refine ⟨_, rfl, f0, vs, rfl, .inl ⟨SqL.of h3, fun t nt => ?_⟩⟩
        have rs2 : RpsK K (upd H' it (itO K dx wl (ni + 1))) vs ds := rs.butI S2.it rfl
        exact q _ _ ((sb1.trans sb2).trans (SameBut.upd.trans (Same.but (Same.new nt)))) (Same.new nt _ _ upd_same) (.tup upd_same (rs2.mono (Same.new nt)))
      · rw [decide_eq_false (show ¬ optS ws[ni]? = V.str ")" from fun z => he (by
          cases h : ws[ni]? with
          | none =>
            rw [h] at z
            cases z
          | some u =>
            rw [h] at z
            rw [V.str.inj z]))]
        refine iteT ⟨fun σ' H'' => ∃ kk', kk' < kk ∧ ∃ (ds : List Dat) (ni : Nat) (vs : List V), σ' = [some (.ref it), some (.int ((d + 1 : Nat) : Int)), some (.ref f0)] ∧ H'' f0 = some (.lst vs) ∧ RpsK K H'' vs ds ∧ WellS d (n + 1) ws.length ds ni ∧ ItS K H'' it dx wl ws ni ∧ SameBut it H1 H'' ∧ pLoop ws (pItem ws d) (ws.length + 1) (n + 1) [] = pLoop ws (pItem ws d) kk' ni ds ∧ ws.length < ni + kk', fun σ' H'' h => h, ?_⟩
        refine ⟨_, rfl, .inl ⟨rfl, _, SqL.of hf⟩, _, rfl, it, dx, _, rfl, S2.it, rfl, _, rfl, _, _, rfl, rfl, it, dx, wl, ws, ni, (show [V.ref it, V.int (((d + 1 : Nat) : Int) - 1)] = [V.ref it, V.int (d : Int)] by rw [sub1]), S2, hw, ?_⟩
        cases ef : pItem ws d ni with
        | error x =>
          have eq2 : pLoop ws (pItem ws d) (ws.length + 1) (n + 1) [] = .error x := by
            rw [eq]
            cases kk with
            | succ j => exact pLoop_err he ef
            | zero =>
              have hnone : ws[ni]? = none := List.getElem?_eq_none_iff.mpr (by omega)
              rw [pItem_eq, hnone] at ef
              rw [pLoop_zero he]
              have e9 : (Except.error ni : Rs Dat) = .error x := ef
              cases e9
              rfl
          rw [eq2] at q
          exact ErrT.mono q (sb1.trans sb2)
        | ok p =>
          obtain ⟨dd, m⟩ := p
          have gd := g ni dd m ef
          obtain ⟨j, rfl⟩ : ∃ j, kk = j + 1 := ⟨kk - 1, by have := gd.lt; have := gd.le; omega⟩
          intro H'' v sb3 e3 rv
          have w2 := wellS_snoc wl_ gd
          have hD3 : H'' f0 = some (.lst vs) := sb3 _ _ itf.symm hf
          refine ⟨f0, vs, v, rfl, rfl, hD3, ?_, j, by omega, ds ++ [dd], m, vs ++ [v], rfl, upd_same, ?_, w2, ⟨by rw [upd_ne itf]; exact e3, by rw [upd_ne wlf]; exact sb3 _ _ S2.ne S2.wl⟩, fun b o hb e4 => ?_, by rw [eq, pLoop_ok he ef], by have := gd.lt; omega⟩
          · rw [rs.len]
            have h1 := cn_len ds
            have h2 := wl_.cn
            omega
          · exact Rps.but hD3 (plS_nl _ w2.pl) ((Rps.step S2 sb3 e3 rs).snoc rv)
          · rw [upd_ne (ne_of_none e4 nf)]
            exact sb3 b o hb (sb2 b o hb e4)
/-- the three readers, level by level -/
theorem d_levels (T : Txt w K mg) (C : ItC K) {fdW fdN fdC f1 f2 f3 f4 f5 f6 f7 : FuncData} (O : XOk P w K mg base "BadText" ["self", "line", "word"] (spX2 K "BadText" "line" "word")) (FW : FnT K "is_written" 81 fdW) (FN : FnT K "is_name" 5 fdN) (FC : FnT K "parts_count" 72 fdC)
    (F1 : MT K "stop" "Items.stop" 1 f1) (F2 : MT K "ahead" "Items.ahead" 2 f2) (F3 : MT K "take" "Items.take" 3 f3) (F4 : MT K "take_word" "Items.take_word" 4 f4) (F5 : MT K "take_paper" "Items.take_paper" 5 f5) (F6 : MT K "take_item" "Items.take_item" 6 f6) (F7 : MT K "take_deep" "Items.take_deep" 7 f7)
    (DM : Dfn P w K mg base CX0 40 "made" ["word", "some"] (spMade K 20)) : ∀ i, i ≤ 21 → Mtd P w K mg base (L2.CX P w) (40 + 3 * i) "take_item" ["self", "deep"] (lvl (spItem K) i) ∧ Mtd P w K mg base (L2.CX P w) (41 + 3 * i) "take_paper" ["self", "deep"] (lvl (spPaper K) i) := by
  have M2 := d_ahead (P := P) (base := base) T C F2
  have M1 := d_stop T C O F1
  have M3 := d_take T C (M2.mono (k' := 3) (by omega)) M1 F3
  have M4 := d_takeW T C (M2.mono (k' := 3) (by omega)) M1 F4
  intro i
  induction i with
  | zero => exact fun _ => ⟨mtd_no F6 (fun _ _ _ _ _ _ us hl => match us, hl with | [_, _], _ => rfl), mtd_no F5 (fun _ _ _ _ _ _ us hl => match us, hl with | [_, _], _ => rfl)⟩
  | succ i ih =>
    intro hi
    obtain ⟨A, Pp⟩ := ih (by omega)
    have MD := d_deep (k := 41 + 3 * i) T C (M2.mono (by omega)) (M1.mono (by omega)) (M3.mono (by omega)) (M4.mono (by omega)) (A.mono (by omega)) Pp F7
    have A2 := d_item (k := 41 + 3 * i) T C FW FN (M2.mono (by omega)) (M1.mono (by omega)) MD F6
    have P2 := d_paper (k := 42 + 3 * i) T C FC (by omega) (M2.mono (by omega)) (M1.mono (by omega)) (M3.mono (by omega)) (A2.mono (by omega)) (DM.mono (by omega)) F5
    exact ⟨A2.mono (by omega), P2.mono (by omega)⟩
end
end K6
end
section -- KF12
set_option maxHeartbeats 4000000
/-! Items made, take_whole, read_paper, paper_text. -/
namespace K6
open PySem PySem.Spec PyProof.Rows L2 NdefX
section
variable {P : Program} {w : World} {K : PySem.W.Frag} {mg : Str → Option Value} {base : Heap}
/-- how a refusal leaves, all else as it was -/
def ErrW (K : PySem.W.Frag) (H : Hp) (E : XK) (n : Nat) : Prop := ∀ H' x, Same H H' → H' x = some (.xd [("word", .int (n : Int)), ("line", .int 0)]) → E (.ref (He.ga K "BadText")) (some x) H'
def GotW (K : PySem.W.Frag) (r : Except Nat Dat) (H : Hp) (Q : VK) (E : XK) : Prop := match r with
  | .ok d => ∀ H' v, Same H H' → RpK K H' v d → Q v H'
  | .error e => ErrW K H E e
theorem GotW.mono {r : Except Nat Dat} {H H1 : Hp} {Q : VK} {E : XK} (h : GotW K r H Q E) (s : Same H H1) : GotW K r H1 Q E := by
  cases r with
  | error e => exact fun H' x s' e => h H' x (s.trans s') e
  | ok d => exact fun H' v s' r => h H' v (s.trans s') r
def spItInit (K : PySem.W.Frag) : Sp := fun vs H Q _ => ∃ it dx wl, vs = [.ref it, .ref wl] ∧ H it = some (.ins (He.ga K "Items") dx []) ∧ Q .non (upd H it (itO K dx wl 0))
theorem sc_ii : FnScope ["self", "words"] ["self", "words"] (defScope (inClass (top 82) 0)) := ⟨rfl, rfl, rfl, by decide +kernel, rfl, by decide +kernel, by decide +kernel⟩
theorem d_ii (C : ItC K) {fd : FuncData} (F : MT K "__init__" "Items.__init__" 0 fd) : ∃ fd, FnOk P w K mg base CX0 1 (He.ma K (He.ga K "Items") "__init__") fd ["self", "words"] (spItInit K) ∧ Binds K fd ["self", "words"] [] := by
  refine ⟨fd, F.ok sc_ii (fun vs H Q E h => by obtain ⟨it, dx, wl, rfl, _⟩ := h; rfl) fun cdv A outer s H vs Q E hr h => ?_, F.bindsN fun _ _ _ _ _ _ us hl => match us, hl with | [_, _], _ => rfl⟩
  refine ⟨_, PSs.nox (pss_cons (ps_fld (pv 0) (pv 1) rfl) (pss_one (ps_fld (pv 0) pe_int rfl))), ?_⟩
  obtain ⟨it, dx, wl, rfl, h, q⟩ := h
  refine ⟨_, rfl, _, rfl, it, _, dx, [], rfl, h, C.cls, C.noW, by decide, ?_⟩
  refine ⟨_, rfl, it, _, dx, _, rfl, upd_same, C.cls, C.noA, (show 1 < 1000 by decide), ?_⟩
  show Q .non (upd (upd H it _) it _)
  rw [upd_upd]
  exact q
def spWhole (K : PySem.W.Frag) : Sp := fun vs H Q E => ∃ (wl : Addr) (ws : List Str), vs = [.ref wl] ∧ H wl = some (.lst (ws.map V.str)) ∧ Wds ws ∧ GotW K (pWhole ws) H Q E
theorem sc_whole : FnScope ["words", "items", "found"] ["words"] (defScope (top 83)) := ⟨rfl, rfl, rfl, by decide +kernel, rfl, by decide +kernel, by decide +kernel⟩
theorem d_whole (T : Txt w K mg) (C : ItC K) {k : Nat} {f0 fd : FuncData} (F0 : MT K "__init__" "Items.__init__" 0 f0) (M1 : Mtd P w K mg base CX0 (k + 2) "ahead" ["self"] (spAhead K)) (M2 : Mtd P w K mg base (L2.CX P w) (k + 2) "stop" ["self"] (spStop K))
    (MP : Mtd P w K mg base (L2.CX P w) (k + 2) "take_paper" ["self", "deep"] (spPaper K 20)) (F : FnT K "take_whole" 83 fd) : Dfn P w K mg base (L2.CX P w) (k + 3) "take_whole" ["words"] (spWhole K) := by
  refine dfn_mk F (T.g _ (by decide +kernel)) (fun _ _ _ _ _ _ us hl => match us, hl with | [_], _ => rfl) (F.ok sc_whole (fun vs H Q E h => by obtain ⟨wl, ws, rfl, _⟩ := h; rfl) fun cdv A outer s H vs Q E hr h => ?_)
  obtain ⟨t1, g1⟩ := T.i "MOST_DEEP" 20 (by decide +kernel)
  have gI := T.g "Items" (by decide +kernel)
  obtain ⟨fi, FI, bI⟩ := d_ii (P := P) (w := w) (mg := mg) (base := base) C F0
  refine ⟨_, pss_cons (ps_set (i := 1) sc_whole.nd rfl (Or.inl rfl) (pe_make C.mkr FI (hr.mono (show 1 + 1 ≤ k + 2 by omega)) rfl gI bI .nil pass0 (pa_cons (pv 0) pa_nil)))
    (pss_cons (ps_set (i := 2) sc_whole.nd rfl (Or.inl rfl) (pe_m C MP (by decide) hr passX (pv 1) (pa_cons (pe_gi g1) pa_nil)))
    (pss_cons (ps_if (pt_cmpR op_notN (pe_m0 C M1 (by decide) hr pass0 (pv 1)) pe_non (nomark _)) (pss_one (ps_expr (pe_m0 C M2 (by decide) hr passX (pv 1)))) pss_nil)
    (pss_one (ps_ret (pv 2))))), ?_⟩
  obtain ⟨wl, ws, rfl, hW, hw, q⟩ := h
  have hwn := hw.n
  refine ⟨_, rfl, fun it dx ni nd ne => ?_⟩
  have s1 : Same H (upd (upd H dx (.own it)) it (.ins (He.ga K "Items") dx [])) := (Same.new nd).trans (Same.new (by rw [upd_ne ne.symm]; exact ni))
  refine ⟨it, dx, wl, rfl, upd_same, rfl, ?_⟩
  rw [upd_upd]
  have S : ItS K (upd (upd H dx (.own it)) it (itO K dx wl 0)) it dx wl ws 0 := ⟨upd_same, by rw [upd_ne (ne_of_none hW ni), upd_ne (ne_of_none hW nd)]; exact hW⟩
  have s2 : Same H (upd (upd H dx (.own it)) it (itO K dx wl 0)) := (Same.new nd).trans (Same.new (by rw [upd_ne ne.symm]; exact ni))
  generalize upd (upd H dx (.own it)) it (itO K dx wl 0) = H1 at S s2
  have tr : ∀ {H'}, SameBut it H1 H' → Same H H' := fun {H'} sb b o e => sb b o (ne_of_none e ni) (s2 b o e)
  refine ⟨_, rfl, it, dx, _, rfl, S.it, rfl, it, dx, wl, ws, 0, rfl, S, hw, ?_⟩
  unfold pWhole at q
  cases ep : pPaper ws (pItem ws 20) 0 with
  | error x =>
    rw [ep] at q
    exact fun H' x' sb e => q H' x' (tr sb) e
  | ok p =>
    obtain ⟨pp, m⟩ := p
    rw [ep] at q
    have q : GotW K (if m < ws.length then .error m else .ok pp) H Q E := q
    intro H2 v sb e2 rv
    have S2 := S.at sb e2
    have wle := (pPaper_well (pItem_well ws 20) ep).le
    refine ⟨_, rfl, it, dx, _, rfl, S2.it, rfl, it, dx, wl, ws, m, rfl, S2, by omega, rfl, _, rfl, ?_⟩
    by_cases hm : m < ws.length
    · rw [if_pos hm] at q
      have e3 : ws[m]? = some ws[m] := List.getElem?_eq_getElem hm
      rw [e3]
      exact iteT ⟨_, rfl, it, dx, _, rfl, S2.it, rfl, it, dx, wl, ws, m, rfl, S2, fun H' x' sb' e => q H' x' (tr (sb.trans sb')) e⟩
    · rw [if_neg hm] at q
      have e3 : ws[m]? = none := List.getElem?_eq_none_iff.mpr (by omega)
      rw [e3]
      exact iteF ⟨_, rfl, q H2 v (tr sb) rv⟩
/-! ### read_paper -/
def spRead (K : PySem.W.Frag) : Sp := fun vs H Q E => ∃ v d, vs = [v] ∧ RpK K H v d ∧ d.okc = true ∧ (∀ z, d = .str z → z.length + 2 ≤ sizeLine ∧ Wds (Txt.split z " ") ∧ GotW K (pWhole (Txt.split z " ")) H Q E) ∧ ((∀ z, d ≠ .str z) → ErrW K H E 0)
theorem sc_read : FnScope ["text"] ["text"] (defScope (top 85)) := ⟨rfl, rfl, rfl, by decide +kernel, rfl, by decide +kernel, by decide +kernel⟩
theorem ok_read (T : Txt w K mg) (O : XOk P w K mg base "BadText" ["self", "line", "word"] (spX2 K "BadText" "line" "word")) {k : Nat} {fd : FuncData} (DW : Dfn P w K mg base (L2.CX P w) (k + 3) "take_whole" ["words"] (spWhole K)) (F : FnT K "read_paper" 85 fd) : FnOk P w K mg base (L2.CX P w) (k + 4) (He.ga K "read_paper") fd ["text"] (spRead K) := by
  refine F.ok sc_read (fun vs H Q E h => by obtain ⟨v, d, rfl, _⟩ := h; rfl) fun cdv A outer s H vs Q E hr h => ?_
  have mI := T.z "isinstance" (by decide +kernel)
  have m1 := T.z "str" (by decide +kernel)
  refine ⟨_, pss_cons (ps_if (pt_not (pt_val (pe_callB call_isi rfl mI (by decide +kernel) (pa_cons (pv 0) (pa_cons (pe_ty "str" m1) pa_nil))))) (pss_one (ps_raiseX rfl O (hr.mono (show 2 ≤ k + 3 by omega)) (takes_of rfl rfl rfl rfl) (pa_cons pe_int (pa_cons pe_int pa_nil)))) pss_nil)
    (pss_one (ps_ret (pe_d DW hr passX (pa_cons (pe_split (pv 0) pe_str) pa_nil)))), ?_⟩
  obtain ⟨v, d, rfl, r, hc, q1, q2⟩ := h
  refine ⟨_, rfl, _, _, _, _, _, rfl, .ty _, ty_of T r hc, kit_B T hc (by simp), _, rfl, ?_⟩
  rcases str_cases d with ⟨z, rfl⟩ | e
  · cases r
    obtain ⟨hz, hw, q⟩ := q1 z rfl
    refine iteF ⟨_, rfl, ⟨z, rfl⟩, z, " ", rfl, rfl, by decide, hz, fun p np => ?_⟩
    exact ⟨p, Txt.split z " ", rfl, upd_same, hw, q.mono (Same.new np)⟩
  · rw [e]
    refine iteT ?_
    exact made2 (by decide) fun H' d s' nd hd => q2 (fun z hz => by rw [hz] at e; cases e) H' d s' hd
theorem d_read (T : Txt w K mg) (O : XOk P w K mg base "BadText" ["self", "line", "word"] (spX2 K "BadText" "line" "word")) {k : Nat} {fd : FuncData} (DW : Dfn P w K mg base (L2.CX P w) (k + 3) "take_whole" ["words"] (spWhole K)) (F : FnT K "read_paper" 85 fd) : Dfn P w K mg base (L2.CX P w) (k + 4) "read_paper" ["text"] (spRead K) :=
  dfn_mk F (T.g _ (by decide +kernel)) (fun _ _ _ _ _ _ us hl => match us, hl with | [_], _ => rfl) (ok_read T O DW F)
end
end K6
end
section -- KF13
set_option maxHeartbeats 4000000
/-! paper_text. -/
namespace K6
open PySem PySem.Spec PyProof.Rows L2 NdefX
theorem maxI_few {i : Int} (h : (i.natAbs : Int) ≤ maxI) : i.natAbs < 10 ^ 4300 := by
  have h1 : ((10 ^ 4000 : Nat) : Int) - 1 = maxI := rfl
  have h2 : 10 ^ 4000 ≤ 10 ^ 4300 := Nat.pow_le_pow_right (by decide) (by decide)
  generalize 10 ^ 4000 = a at h1 h2
  generalize 10 ^ 4300 = b at h2
  omega
/-- what has a text has words -/
theorem has_word : ∀ (n : Nat) (d : Dat), hasText n d = true → d.pl = true ∧ d.few ∧ d.dep ≤ n := by
  intro n
  induction n with
  | zero =>
    intro d h
    have h : hasFlat d = true := h
    cases d with
    | non => exact ⟨rfl, trivial, Nat.le_refl _⟩
    | str z => exact ⟨rfl, trivial, Nat.le_refl _⟩
    | int i => exact ⟨rfl, maxI_few (of_decide_eq_true h), Nat.le_refl _⟩
    | _ => cases h
  | succ n ih =>
    have all_ : ∀ ds : List Dat, ds.all (hasText n) = true → plS ds = true ∧ fewS ds ∧ depS ds ≤ n := by
      intro ds
      induction ds with
      | nil => exact fun _ => ⟨rfl, trivial, Nat.zero_le _⟩
      | cons d r ih2 =>
        intro h
        rw [List.all_cons, Bool.and_eq_true] at h
        obtain ⟨a1, a2, a3⟩ := ih d h.1
        obtain ⟨b1, b2, b3⟩ := ih2 h.2
        refine ⟨?_, ⟨a2, b2⟩, ?_⟩
        · show (d.pl && plS r) = true
          rw [a1, b1] <;> rfl
        · show max d.dep (depS r) ≤ n
          omega
    intro d h
    cases d with
    | non => exact ⟨rfl, trivial, Nat.zero_le _⟩
    | str z => exact ⟨rfl, trivial, Nat.zero_le _⟩
    | int i => exact ⟨rfl, maxI_few (of_decide_eq_true h), Nat.zero_le _⟩
    | tup ds =>
      obtain ⟨a, b, c⟩ := all_ ds h
      exact ⟨a, b, Nat.succ_le_succ c⟩
    | pap c z ds =>
      have h : (decide (counts.lookup z = some ds.length) && ds.all (hasText n)) = true := h
      rw [Bool.and_eq_true] at h
      obtain ⟨a, b, c⟩ := all_ ds h.2
      exact ⟨a, b, Nat.succ_le_succ c⟩
    | _ => cases h
/-- the text of a paper: its words, the outer marks left out -/
def txtW (z : Str) (ds : List Dat) : Str := Txt.join " " (z :: Ws ds)
/-- what paper_text answers: a text, or which part is bad -/
def ptx : Dat → Except Str Str
  | .pap c z ds => if counts.lookup z = some ds.length then (if hasText 21 (.pap c z ds) = true then .ok (txtW z ds) else .error "parts") else .error "paper"
  | _ => .error "paper"
section
variable {P : Program} {w : World} {K : PySem.W.Frag} {mg : Str → Option Value} {base : Heap}
def GotP (K : PySem.W.Frag) (r : Except Str Str) (H : Hp) (Q : VK) (E : XK) : Prop := match r with
  | .ok t => ∀ H', Same H H' → Q (.str t) H'
  | .error m => ∀ H' x, Same H H' → H' x = some (.xd [("part", .str m)]) → E (.ref (He.ga K "BadPaper")) (some x) H'
def spText (K : PySem.W.Frag) : Sp := fun vs H Q E => ∃ v d, vs = [v] ∧ RpK K H v d ∧ d.ok = true ∧ d.sz + 10 ≤ sizeLine ∧ GotP K (ptx d) H Q E
theorem sc_text : FnScope ["paper"] ["paper"] (defScope (top 84)) := ⟨rfl, rfl, rfl, by decide +kernel, rfl, by decide +kernel, by decide +kernel⟩
theorem ok_text (T : Txt w K mg) (O : XOk P w K mg base "BadPaper" ["self", "part"] (spX1 K "BadPaper" "part")) {fd1 fd2 fd3 fd4 fd5 fd : FuncData} (F1 : FnT K "is_integer" 4 fd1) (F2 : FnT K "is_name" 5 fd2) (F3 : FnT K "parts_count" 72 fd3) (F4 : FnT K "has_text" 79 fd4) (F5 : FnT K "words_of" 80 fd5) (F : FnT K "paper_text" 84 fd) : FnOk P w K mg base (L2.CX P w) 25 (He.ga K "paper_text") fd ["paper"] (spText K) := by
  have DC := (d_count (P := P) (base := base) T F3).mono (k' := 24) (by omega)
  have DH : Dfn P w K mg base CX0 24 "has_text" ["value", "deep"] (spHas K 21) := (d_has (P := P) (base := base) T F4 F1 F2 F3 22).mono (by omega)
  have DW : Dfn P w K mg base CX0 24 "words_of" ["value"] (spWords K 21) := (d_words (P := P) (base := base) T F5 F1 22).mono (by omega)
  refine F.ok sc_text (fun vs H Q E h => by obtain ⟨v, d, rfl, _⟩ := h; rfl) fun cdv A outer s H vs Q E hr h => ?_
  have mI := T.z "isinstance" (by decide +kernel)
  have mL := T.z "len" (by decide +kernel)
  have gP := T.g "Paper" (by decide +kernel)
  obtain ⟨t1, g1⟩ := T.i "MOST_DEEP" 20 (by decide +kernel)
  refine ⟨_, pss_cons (ps_if (PW.pt (pw_or (pt_not (pt_val (pe_callB call_isi rfl mI (by decide +kernel) (pa_cons (pv 0) (pa_cons (pe_go gP) pa_nil))))) (pw_or1 (pt_cmpR op_ne (pe_d DC hr pass0 (pa_cons (pe_fld (pv 0) rfl) pa_nil)) (pe_callB call_len_seq rfl mL PySem.boot_len (pa_cons (pe_fld (pv 0) rfl) pa_nil)) (nomark _)))))
      (pss_one (ps_raiseX rfl O (hr.mono (by omega)) (takes_of rfl rfl rfl rfl) (pa_cons pe_str pa_nil))) pss_nil)
    (pss_cons (ps_if (pt_not (pt_val (pe_d DH hr pass0 (pa_cons (pv 0) (pa_cons (pe_op op_add (pe_gi g1) pe_int) pa_nil))))) (pss_one (ps_raiseX rfl O (hr.mono (by omega)) (takes_of rfl rfl rfl rfl) (pa_cons pe_str pa_nil))) pss_nil)
    (pss_one (ps_ret (pe_join pe_str (pe_slice sl_list (pe_d DW hr pass0 (pa_cons (pv 0) pa_nil)) (po_some pe_int) (po_some (pe_un un_neg pe_int))))))), ?_⟩
  obtain ⟨v, d, rfl, r, ho, hz, q⟩ := h
  have hc := okc_of ho
  refine ⟨_, rfl, _, _, _, _, _, rfl, .own _, ty_of T r hc, kit_P T hc, _, rfl, ?_⟩
  by_cases hP : ∃ c z ds, d = .pap c z ds
  · obtain ⟨c, z, ds, rfl⟩ := hP
    have ho2 : (decide (c < 24) && (nlS ds && okS ds)) = true := ho
    rw [Bool.and_eq_true, Bool.and_eq_true] at ho2
    have hz2 : 5 + z.length + szS ds + 10 ≤ sizeLine := hz
    have pc := T.p c (of_decide_eq_true ho2.1)
    have q : GotP K (if counts.lookup z = some ds.length then (if hasText 21 (.pap c z ds) = true then .ok (txtW z ds) else .error "parts") else .error "paper") H Q E := q
    have r0 := r
    refine iteF ?_
    cases r with
    | pap ha hw hp ht hf hm2 rs =>
      rename_i a dx t fs vs
      refine ⟨_, rfl, _, _, _, _, _, rfl, ha, pc.cls, pc.noW, hw, _, .str z, rfl, .str z, rfl, _, rfl, _, _, _, _, _, rfl, ha, pc.cls, pc.noP, hp, _, _, rfl, .inr (SqT.of ht), ?_⟩
      have hl := rs.len
      have key : scal (optV (pcnt (.str z))) (.int (vs.length : Int)) = true ∧ (!decide (optV (pcnt (.str z)) = .int (vs.length : Int))) = !decide (counts.lookup z = some ds.length) := by
        show scal (optV (counts.lookup z)) _ = true ∧ (!decide (optV (counts.lookup z) = _)) = _
        cases counts.lookup z with
        | none => exact ⟨rfl, by rw [decide_eq_false (by intro z; cases z), decide_eq_false (by intro z; cases z)]⟩
        | some k =>
          refine ⟨rfl, ?_⟩
          rw [hl]
          by_cases hk : k = ds.length
          · rw [hk, decide_eq_true (show optV (some ds.length) = V.int (ds.length : Int) from rfl), decide_eq_true (show some ds.length = some ds.length from rfl)]
          · rw [decide_eq_false (show ¬ optV (some k) = V.int (ds.length : Int) from fun z => hk (by have := V.int.inj z; omega)), decide_eq_false (show ¬ some k = some ds.length from fun z => hk (Option.some.inj z))]
      refine ⟨key.1, _, rfl, ?_⟩
      rw [key.2]
      by_cases hk : counts.lookup z = some ds.length
      · rw [if_pos hk] at q
        rw [decide_eq_true hk]
        refine iteF ⟨_, rfl, _, _, rfl, rfl, _, .pap c z ds, rfl, r0, ho, by omega, fun H1 s1 => ⟨_, rfl, ?_⟩⟩
        by_cases hx : hasText 21 (.pap c z ds) = true
        · rw [if_pos hx] at q
          rw [hx]
          obtain ⟨hpl, hfew, hdp⟩ := has_word 21 _ hx
          refine iteF ⟨⟨" ", rfl⟩, _, rfl, _, .pap c z ds, rfl, r0.mono s1, ⟨ho, hpl, hfew, by omega, hdp⟩, fun H2 l s2 nl hL => ?_⟩
          refine ⟨_, rfl, _, rfl, _, rfl, l, _, rfl, SqL.of hL, fun p np => ?_⟩
          have ecut : cutV ((Dat.pap c z ds).W.map V.str) (some 1) (some (-1)) = (z :: Ws ds).map V.str := by
            show cutV ((("[" : Str) :: z :: (Ws ds ++ [("]" : Str)])).map V.str) (some 1) (some (-1)) = _
            have el : ((("[" : Str) :: z :: (Ws ds ++ [("]" : Str)])).map V.str).length = (Ws ds).length + 3 := by
              rw [List.length_map, List.length_cons, List.length_cons, List.length_append, List.length_singleton]
            unfold cutV
            rw [el]
            have e1 : HT.sIx ((Ws ds).length + 3) 0 (some 1) = 1 := (HT.sIx_nat ((Ws ds).length + 3) 0 1).trans (by omega)
            have e2 : HT.sIx ((Ws ds).length + 3) ((Ws ds).length + 3) (some (-1)) = (Ws ds).length + 2 := by
              unfold HT.sIx
              simp only []
              rw [if_pos (by decide)]
              omega
            rw [e1, e2]
            show ((z :: (Ws ds ++ [("]" : Str)])).map V.str).take ((Ws ds).length + 2 - 1) = _
            rw [← List.map_take]
            congr 1
            show (z :: (Ws ds ++ [("]" : Str)])).take ((Ws ds).length + 1) = z :: Ws ds
            rw [List.take_succ_cons, List.take_append_of_le_length (Nat.le_refl _), List.take_length]
          have eU : upd H2 p (.lst (cutV ((Dat.pap c z ds).W.map V.str) (some 1) (some (-1)))) p = some (.lst ((z :: Ws ds).map V.str)) := by rw [upd_same, ecut]
          refine ⟨" ", p, z :: Ws ds, rfl, rfl, .inl (SqL.of eU), ?_, q _ ((s1.trans s2).trans (Same.new np))⟩
          have ch := chars_Ws ds hpl
          have sl : sizeLine = 16777216 := sizeLine_eq
          have sum_ : ∀ l : List Str, (l.map (·.length)).sum + l.length * 1 = chars l := by
            intro l
            induction l with
            | nil => rfl
            | cons a b ih =>
              rw [chars_cons, List.map_cons, List.sum_cons, List.length_cons]
              omega
          have e3 := sum_ (z :: Ws ds)
          rw [chars_cons, ch] at e3
          show ((z :: Ws ds).map (·.length)).sum + (z :: Ws ds).length * 1 ≤ 16777216
          omega
        · rw [if_neg hx] at q
          rw [Bool.not_eq_true] at hx
          rw [hx]
          exact iteT (made1 fun H' x s' nd hd => q H' x (s1.trans s') hd)
      · rw [if_neg hk] at q
        rw [decide_eq_false hk]
        exact iteT (made1 fun H' x s' nd hd => q H' x s' hd)
  · have fP : isP d = false := by
      cases d with
      | pap c z ds => exact absurd ⟨c, z, ds, rfl⟩ hP
      | _ => rfl
    have e : ptx d = .error "paper" := by
      cases d with
      | pap c z ds => exact absurd ⟨c, z, ds, rfl⟩ hP
      | _ => rfl
    rw [e] at q
    rw [fP]
    exact iteT (iteT (made1 fun H' x s' nd hd => q H' x s' hd))
theorem d_text (T : Txt w K mg) (O : XOk P w K mg base "BadPaper" ["self", "part"] (spX1 K "BadPaper" "part")) {fd1 fd2 fd3 fd4 fd5 fd : FuncData} (F1 : FnT K "is_integer" 4 fd1) (F2 : FnT K "is_name" 5 fd2) (F3 : FnT K "parts_count" 72 fd3) (F4 : FnT K "has_text" 79 fd4) (F5 : FnT K "words_of" 80 fd5) (F : FnT K "paper_text" 84 fd) :
    Dfn P w K mg base (L2.CX P w) 25 "paper_text" ["paper"] (spText K) :=
  dfn_mk F (T.g _ (by decide +kernel)) (fun _ _ _ _ _ _ us hl => match us, hl with | [_], _ => rfl) (ok_text T O F1 F2 F3 F4 F5 F)
end
end K6
end
section -- KLaw1
set_option maxHeartbeats 4000000
/-! The plain laws of reading: words of data are read as the data; a bad word is refused where it stands. -/
namespace K6
open PySem PySem.Spec PyProof.Rows L2
mutual
/-- data that can be read back -/
def Dat.rd : Dat → Prop
  | .non => True
  | .str z => isNm z = true
  | .int i => isWr (iStr i) = true ∧ valW (iStr i) = i
  | .tup ds => rdS ds
  | .pap c z ds => counts.lookup z = some ds.length ∧ c = (wnum z).getD 0 ∧ rdS ds
  | _ => False
def rdS : List Dat → Prop
  | [] => True
  | d :: r => d.rd ∧ rdS r
end
/-! ### words that are no marks -/
def marks : List Str := ["(", "[", ")", "]", "-"]
theorem marks_no : ∀ z ∈ marks, isNm z = false ∧ isWr z = false ∧ counts.lookup z = none := by decide +kernel
theorem nm_mark {z : Str} (h : isNm z = true) : z ∉ marks := fun m => by
  rw [(marks_no z m).1] at h
  cases h
theorem wr_mark {z : Str} (h : isWr z = true) : z ∉ marks := fun m => by
  rw [(marks_no z m).2.1] at h
  cases h
theorem nm_wr {z : Str} (h : isNm z = true) : isWr z = false := by
  cases e : isWr z with
  | false => rfl
  | true =>
    exfalso
    obtain ⟨h1, h2, _⟩ := wr_parts e
    unfold isNm at h
    cases hl : z.cps.toList with
    | nil =>
      rw [hl] at h
      cases h
    | cons c r =>
      rw [hl] at h h1 h2
      have h : (decide (r.length < 8) && decide (c ∈ letters) && (c :: r).all fun x => decide (x ∈ signs)) = true := h
      rw [Bool.and_eq_true, Bool.and_eq_true] at h
      have hc := of_decide_eq_true h.1.2
      have g : ∀ x ∈ letters, 97 ≤ x := by decide +kernel
      have hc2 := g c hc
      have ef : figs (c :: r) = c :: r := by
        rcases figs_or (c :: r) with e | e
        · exact e.symm
        · have : c = 45 := (List.cons.inj e).1
          omega
      rw [ef] at h1
      have := h1 c List.mem_cons_self
      omega
theorem head_W {d : Dat} (h : d.rd) : ∃ z r, d.W = z :: r ∧ z ≠ (")" : Str) := by
  cases d with
  | non => exact ⟨_, _, rfl, by decide⟩
  | str z => exact ⟨_, _, rfl, fun e => nm_mark (z := z) h (by rw [e]; decide +kernel)⟩
  | int i => exact ⟨_, _, rfl, fun e => wr_mark h.1 (by rw [e]; decide +kernel)⟩
  | tup ds => exact ⟨_, _, rfl, by decide⟩
  | pap c z ds => exact ⟨_, _, rfl, by decide⟩
  | bl b => exact False.elim h
  | emp => exact False.elim h
  | lst ds => exact False.elim h
theorem W_pos {d : Dat} (h : d.rd) : 1 ≤ d.W.length := by
  obtain ⟨z, r, e, _⟩ := head_W h
  rw [e, List.length_cons]
  omega
theorem at_mid {α : Type} {a b : List α} {z : α} : (a ++ z :: b)[a.length]? = some z := by
  rw [List.getElem?_append_right (Nat.le_refl _), Nat.sub_self]
  rfl
/-! ### what is written is read -/
section
variable {ws : List Str} {f : Rd1} {k : Nat}
/-- f reads all data of depth k -/
def Reads (ws : List Str) (f : Rd1) (k : Nat) : Prop := ∀ d, d.rd → d.dep ≤ k → ∀ pre post : List Str, ws = pre ++ (d.W ++ post) → f pre.length = .ok (d, pre.length + d.W.length)
theorem seq_ok (R : Reads ws f k) : ∀ (ds acc : List Dat) (pre post : List Str), rdS ds → depS ds ≤ k → ws = pre ++ (Ws ds ++ post) → pSeq f ds.length pre.length acc = .ok (acc ++ ds, pre.length + (Ws ds).length)
  | [], acc, pre, post, _, _, _ => by
    show (.ok (acc, pre.length) : Rs (List Dat)) = .ok (acc ++ [], pre.length + 0)
    rw [List.append_nil] <;> rfl
  | d :: r, acc, pre, post, h, hd, e => by
    have hd : max d.dep (depS r) ≤ k := hd
    have e : ws = pre ++ ((d.W ++ Ws r) ++ post) := e
    rw [List.append_assoc] at e
    have h1 := R d h.1 (by omega) pre (Ws r ++ post) e
    have h2 := seq_ok R r (acc ++ [d]) (pre ++ d.W) post h.2 (by omega) (by rw [List.append_assoc]; exact e)
    rw [List.length_cons, pSeq_ok h1]
    rw [List.length_append] at h2
    rw [h2, List.append_assoc]
    show (.ok (acc ++ ([d] ++ r), pre.length + d.W.length + (Ws r).length) : Rs (List Dat)) = .ok (acc ++ d :: r, pre.length + (d.W ++ Ws r).length)
    rw [List.length_append, Nat.add_assoc] <;> rfl
theorem loop_ok (R : Reads ws f k) : ∀ (ds acc : List Dat) (pre post : List Str) (F : Nat), rdS ds → depS ds ≤ k → ds.length < F → ws = pre ++ (Ws ds ++ (")" : Str) :: post) → pLoop ws f F pre.length acc = .ok (acc ++ ds, pre.length + (Ws ds).length + 1)
  | [], acc, pre, post, F, _, _, _, e => by
    have e : ws = pre ++ (")" : Str) :: post := e
    rw [pLoop_end (by rw [e]; exact at_mid)]
    show (.ok (acc, pre.length + 1) : Rs (List Dat)) = .ok (acc ++ [], pre.length + 0 + 1)
    rw [List.append_nil] <;> rfl
  | d :: r, acc, pre, post, F, h, hd, hF, e => by
    have hd : max d.dep (depS r) ≤ k := hd
    have e : ws = pre ++ ((d.W ++ Ws r) ++ (")" : Str) :: post) := e
    rw [List.append_assoc] at e
    obtain ⟨G, rfl⟩ : ∃ G, F = G + 1 := ⟨F - 1, by omega⟩
    rw [List.length_cons] at hF
    have h1 := R d h.1 (by omega) pre (Ws r ++ (")" : Str) :: post) e
    obtain ⟨z, t, ez, nz⟩ := head_W h.1
    have hz : ws[pre.length]? ≠ some (")" : Str) := by
      rw [e, ez]
      show (pre ++ z :: (t ++ (Ws r ++ (")" : Str) :: post)))[pre.length]? ≠ _
      rw [at_mid]
      exact fun q => nz (Option.some.inj q)
    have h2 := loop_ok R r (acc ++ [d]) (pre ++ d.W) post G h.2 (by omega) (by omega) (by rw [List.append_assoc]; exact e)
    rw [pLoop_ok hz h1]
    rw [List.length_append] at h2
    rw [h2, List.append_assoc]
    show (.ok (acc ++ ([d] ++ r), pre.length + d.W.length + (Ws r).length + 1) : Rs (List Dat)) = .ok (acc ++ d :: r, pre.length + (d.W ++ Ws r).length + 1)
    rw [List.length_append, Nat.add_assoc pre.length] <;> rfl
theorem paper_ok (R : Reads ws f k) {c : Nat} {z : Str} {ds : List Dat} {pre post : List Str} (h : (Dat.pap c z ds).rd) (hd : depS ds ≤ k) (e : ws = pre ++ z :: (Ws ds ++ post)) : pPaper ws f pre.length = .ok (.pap c z ds, pre.length + 1 + (Ws ds).length) := by
  obtain ⟨h1, h2, h3⟩ := h
  have ez : ws[pre.length]? = some z := by rw [e]; exact at_mid
  have h4 := seq_ok R ds [] (pre ++ [z]) post h3 hd (by rw [List.append_assoc]; exact e)
  rw [List.length_append] at h4
  have h4 : pSeq f ds.length (pre.length + 1) [] = .ok ([] ++ ds, pre.length + 1 + (Ws ds).length) := h4
  unfold pPaper
  rw [ez]
  simp only []
  rw [h1]
  simp only []
  rw [h4, h2]
  rfl
end
theorem Ws_len {ds : List Dat} : rdS ds → ds.length ≤ (Ws ds).length := by
  induction ds with
  | nil => exact fun _ => Nat.le_refl _
  | cons d r ih =>
    intro h
    have h1 := ih h.2
    have h2 := W_pos h.1
    show r.length + 1 ≤ (d.W ++ Ws r).length
    rw [List.length_append]
    omega
theorem item_ok (ws : List Str) : ∀ k, Reads ws (pItem ws k) k := by
  intro k
  induction k with
  | zero =>
    intro d h hd pre post e
    rw [pItem_eq]
    cases d with
    | non =>
      have ez : ws[pre.length]? = some ("-" : Str) := by rw [e]; exact at_mid
      rw [ez]
      rfl
    | str z =>
      have ez : ws[pre.length]? = some z := by rw [e]; exact at_mid
      have h : isNm z = true := h
      have hm := nm_mark h
      rw [ez]
      simp only []
      rw [if_neg (fun q => hm (by rcases q with rfl | rfl <;> decide +kernel)), if_neg (fun q => hm (by rw [q]; decide +kernel)), if_neg (by rw [nm_wr h]; exact Bool.false_ne_true), if_pos h]
      rfl
    | int i =>
      have ez : ws[pre.length]? = some (iStr i) := by rw [e]; exact at_mid
      have hm := wr_mark h.1
      rw [ez]
      simp only []
      rw [if_neg (fun q => hm (by rcases q with q | q <;> rw [q] <;> decide +kernel)), if_neg (fun q => hm (by rw [q]; decide +kernel)), if_pos h.1, h.2]
      rfl
    | tup ds =>
      have hd : depS ds + 1 ≤ 0 := hd
      omega
    | pap c z ds =>
      have hd : depS ds + 1 ≤ 0 := hd
      omega
    | bl b => exact False.elim h
    | emp => exact False.elim h
    | lst ds => exact False.elim h
  | succ k R =>
    intro d h hd pre post e
    rw [pItem_eq]
    cases d with
    | non =>
      have ez : ws[pre.length]? = some ("-" : Str) := by rw [e]; exact at_mid
      rw [ez]
      rfl
    | str z =>
      have ez : ws[pre.length]? = some z := by rw [e]; exact at_mid
      have h : isNm z = true := h
      have hm := nm_mark h
      rw [ez]
      simp only []
      rw [if_neg (fun q => hm (by rcases q with rfl | rfl <;> decide +kernel)), if_neg (fun q => hm (by rw [q]; decide +kernel)), if_neg (by rw [nm_wr h]; exact Bool.false_ne_true), if_pos h]
      rfl
    | int i =>
      have ez : ws[pre.length]? = some (iStr i) := by rw [e]; exact at_mid
      have hm := wr_mark h.1
      rw [ez]
      simp only []
      rw [if_neg (fun q => hm (by rcases q with q | q <;> rw [q] <;> decide +kernel)), if_neg (fun q => hm (by rw [q]; decide +kernel)), if_pos h.1, h.2]
      rfl
    | tup ds =>
      have hd : depS ds + 1 ≤ k + 1 := hd
      have h : rdS ds := h
      have e : ws = pre ++ ("(" : Str) :: ((Ws ds ++ [(")" : Str)]) ++ post) := e
      have ez : ws[pre.length]? = some ("(" : Str) := by rw [e]; exact at_mid
      have e2 : ws = (pre ++ [("(" : Str)]) ++ (Ws ds ++ (")" : Str) :: post) := by
        rw [e, List.append_assoc, List.append_assoc] <;> rfl
      have hl := Ws_len h
      have hL : ds.length < ws.length + 1 := by
        rw [e2]
        simp only [List.length_append, List.length_cons]
        omega
      have h4 := loop_ok R ds [] (pre ++ [("(" : Str)]) post (ws.length + 1) h (by omega) hL e2
      rw [List.length_append] at h4
      have h4 : pLoop ws (pItem ws k) (ws.length + 1) (pre.length + 1) [] = .ok ([] ++ ds, pre.length + 1 + (Ws ds).length + 1) := h4
      rw [ez]
      simp only []
      rw [if_pos (.inl trivial)]
      show pDeep ws (pItem ws k) "(" pre.length = _
      unfold pDeep
      rw [if_neg (by decide), h4]
      show (.ok (.tup ds, pre.length + 1 + (Ws ds).length + 1) : Rs Dat) = .ok (.tup ds, pre.length + (("(" : Str) :: (Ws ds ++ [(")" : Str)])).length)
      rw [List.length_cons, List.length_append]
      congr 2
      show pre.length + 1 + (Ws ds).length + 1 = pre.length + ((Ws ds).length + 1 + 1)
      omega
    | pap c z ds =>
      have hd : depS ds + 1 ≤ k + 1 := hd
      have e : ws = pre ++ ("[" : Str) :: z :: ((Ws ds ++ [("]" : Str)]) ++ post) := e
      have ez : ws[pre.length]? = some ("[" : Str) := by rw [e]; exact at_mid
      have e2 : ws = (pre ++ [("[" : Str)]) ++ z :: (Ws ds ++ (("]" : Str) :: post)) := by
        rw [e, List.append_assoc, List.append_assoc] <;> rfl
      have h4 := paper_ok R (c := c) (z := z) h (by omega) e2
      rw [List.length_append] at h4
      have h4 : pPaper ws (pItem ws k) (pre.length + 1) = .ok (.pap c z ds, pre.length + 1 + 1 + (Ws ds).length) := h4
      have eb : ws[pre.length + 1 + 1 + (Ws ds).length]? = some ("]" : Str) := by
        have e3 : ws = (pre ++ ([("[" : Str), z] ++ Ws ds)) ++ ("]" : Str) :: post := by
          rw [e2]
          simp [List.append_assoc]
        have el : (pre ++ ([("[" : Str), z] ++ Ws ds)).length = pre.length + 1 + 1 + (Ws ds).length := by
          rw [List.length_append, List.length_append]
          show pre.length + (2 + (Ws ds).length) = _
          omega
        rw [← el, e3]
        exact at_mid
      rw [ez]
      simp only []
      rw [if_pos (.inr trivial)]
      show pDeep ws (pItem ws k) "[" pre.length = _
      unfold pDeep
      rw [if_pos rfl, h4]
      simp only []
      rw [if_pos eb]
      show (.ok (.pap c z ds, pre.length + 1 + 1 + (Ws ds).length + 1) : Rs Dat) = .ok (.pap c z ds, pre.length + (("[" : Str) :: z :: (Ws ds ++ [("]" : Str)])).length)
      rw [List.length_cons, List.length_cons, List.length_append]
      congr 2
      show pre.length + 1 + 1 + (Ws ds).length + 1 = pre.length + ((Ws ds).length + 1 + 1 + 1)
      omega
    | bl b => exact False.elim h
    | emp => exact False.elim h
    | lst ds => exact False.elim h
/-- a whole text -/
theorem whole_ok {c : Nat} {z : Str} {ds : List Dat} (h : (Dat.pap c z ds).rd) (hd : depS ds ≤ 20) : pWhole (z :: Ws ds) = .ok (.pap c z ds) := by
  have e : z :: Ws ds = ([] : List Str) ++ z :: (Ws ds ++ []) := by rw [List.append_nil] <;> rfl
  have h4 := paper_ok (item_ok (z :: Ws ds) 20) (pre := []) h hd e
  have h4 : pPaper (z :: Ws ds) (pItem (z :: Ws ds) 20) 0 = .ok (.pap c z ds, 0 + 1 + (Ws ds).length) := h4
  unfold pWhole
  rw [h4]
  simp only []
  rw [if_neg (by rw [List.length_cons]; omega)]
end K6
end
section -- KLaw2
set_option maxHeartbeats 4000000
/-! Words that agree up to a place, and a bad word there: the reading is the same up to it, and refused there. -/
namespace K6
open PySem PySem.Spec PyProof.Rows L2
structure badW (z : Str) : Prop where
  m : z ∉ marks
  wr : isWr z = false
  nm : isNm z = false
  ct : counts.lookup z = none
def Bad (ws : List Str) (at_ : Nat) : Prop := ws[at_]? = none ∨ ∃ z, ws[at_]? = some z ∧ badW z
structure Agr (ws ws' : List Str) (at_ : Nat) : Prop where
  same : ∀ i, i < at_ → ws'[i]? = ws[i]?
  len : at_ ≤ ws'.length
/-- f' follows f up to the place -/
def Sim (ws' : List Str) (at_ : Nat) (f f' : Rd1) : Prop := ∀ n d m, f n = .ok (d, m) → n ≤ at_ → (m ≤ at_ → f' n = .ok (d, m)) ∧ (at_ < m → Bad ws' at_ → f' n = .error at_)
def Stops (ws' : List Str) (at_ : Nat) (f' : Rd1) : Prop := Bad ws' at_ → f' at_ = .error at_
theorem bad_ne {ws' : List Str} {at_ : Nat} {z : Str} (B : Bad ws' at_) (h : z ∈ marks) : ws'[at_]? ≠ some z := fun e => by
  rcases B with b | ⟨y, e2, b⟩
  · rw [b] at e
    cases e
  · rw [e2] at e
    cases e
    exact b.m h
section
variable {ws ws' : List Str} {at_ L k : Nat} {f f' : Rd1}
theorem seq_sim (g : Good L k f) (S : Sim ws' at_ f f') : ∀ (c n : Nat) (acc ds : List Dat) (m : Nat), pSeq f c n acc = .ok (ds, m) → n ≤ at_ → (m ≤ at_ → pSeq f' c n acc = .ok (ds, m)) ∧ (at_ < m → Bad ws' at_ → pSeq f' c n acc = .error at_)
  | 0, n, acc, ds, m, h, hn => by
    have h : (.ok (acc, n) : Rs (List Dat)) = .ok (ds, m) := h
    cases h
    exact ⟨fun _ => rfl, fun h => absurd h (by omega)⟩
  | c + 1, n, acc, ds, m, h, hn => by
    cases e : f n with
    | error x =>
      rw [pSeq_err e] at h
      cases h
    | ok p =>
      obtain ⟨d, m1⟩ := p
      rw [pSeq_ok e] at h
      obtain ⟨s1, s2⟩ := S n d m1 e hn
      have hlt := (g n d m1 e).lt
      by_cases hm : m1 ≤ at_
      · obtain ⟨r1, r2⟩ := seq_sim g S c m1 (acc ++ [d]) ds m h hm
        have e' := s1 hm
        exact ⟨fun hx => by rw [pSeq_ok e']; exact r1 hx, fun hx B => by rw [pSeq_ok e']; exact r2 hx B⟩
      · have hm2 : m1 ≤ m := by
          have w := (pSeq_well g (n0 := m1) c m1 (acc ++ [d]) ds m)
          exact seq_le g c m1 (acc ++ [d]) ds m h
        exact ⟨fun hx => absurd hx (by omega), fun _ B => pSeq_err (s2 (by omega) B)⟩
where
  seq_le (g : Good L k f) : ∀ (c n : Nat) (acc ds : List Dat) (m : Nat), pSeq f c n acc = .ok (ds, m) → n ≤ m
  | 0, n, acc, ds, m, h => by
    have h : (.ok (acc, n) : Rs (List Dat)) = .ok (ds, m) := h
    cases h
    exact Nat.le_refl _
  | c + 1, n, acc, ds, m, h => by
    cases e : f n with
    | error x =>
      rw [pSeq_err e] at h
      cases h
    | ok p =>
      obtain ⟨d, m1⟩ := p
      rw [pSeq_ok e] at h
      have := seq_le g c m1 (acc ++ [d]) ds m h
      have := (g n d m1 e).lt
      omega
theorem loop_le (g : Good L k f) : ∀ (F n : Nat) (acc ds : List Dat) (m : Nat), pLoop ws f F n acc = .ok (ds, m) → n < m
  | F, n, acc, ds, m, h => by
    by_cases hz : ws[n]? = some (")" : Str)
    · rw [pLoop_end hz] at h
      cases h
      omega
    · cases F with
      | zero =>
        rw [pLoop_zero hz] at h
        cases h
      | succ F =>
        cases e : f n with
        | error x =>
          rw [pLoop_err hz e] at h
          cases h
        | ok p =>
          obtain ⟨d, m1⟩ := p
          rw [pLoop_ok hz e] at h
          have := loop_le g F m1 (acc ++ [d]) ds m h
          have := (g n d m1 e).lt
          omega
theorem loop_sim (A : Agr ws ws' at_) (g : Good L k f) (S : Sim ws' at_ f f') (St : Stops ws' at_ f') : ∀ (F n : Nat) (acc ds : List Dat) (m F' : Nat), pLoop ws f F n acc = .ok (ds, m) → n ≤ at_ → ws'.length < n + F' →
    (m ≤ at_ → pLoop ws' f' F' n acc = .ok (ds, m)) ∧ (at_ < m → Bad ws' at_ → pLoop ws' f' F' n acc = .error at_)
  | F, n, acc, ds, m, F', h, hn, hF => by
    have atN : n = at_ → Bad ws' at_ → pLoop ws' f' F' n acc = .error at_ := fun e B => by
      subst e
      have hz : ws'[n]? ≠ some (")" : Str) := bad_ne B (by decide +kernel)
      cases F' with
      | zero => exact pLoop_zero hz
      | succ G => exact pLoop_err hz (St B)
    have hlt := loop_le g F n acc ds m h
    by_cases hA : n = at_
    · exact ⟨fun hx => absurd hx (by omega), fun _ B => atN hA B⟩
    have hn2 : n < at_ := by omega
    have es := A.same n hn2
    by_cases hz : ws[n]? = some (")" : Str)
    · rw [pLoop_end hz] at h
      cases h
      exact ⟨fun _ => pLoop_end (by rw [es]; exact hz), fun hx => absurd hx (by omega)⟩
    · have hz' : ws'[n]? ≠ some (")" : Str) := by rw [es]; exact hz
      have hl := A.len
      obtain ⟨G', rfl⟩ : ∃ G', F' = G' + 1 := ⟨F' - 1, by omega⟩
      cases F with
      | zero =>
        rw [pLoop_zero hz] at h
        cases h
      | succ F =>
        cases e : f n with
        | error x =>
          rw [pLoop_err hz e] at h
          cases h
        | ok p =>
          obtain ⟨d, m1⟩ := p
          rw [pLoop_ok hz e] at h
          obtain ⟨s1, s2⟩ := S n d m1 e hn
          have hlt1 := (g n d m1 e).lt
          by_cases hm : m1 ≤ at_
          · obtain ⟨r1, r2⟩ := loop_sim A g S St F m1 (acc ++ [d]) ds m G' h hm (by omega)
            have e' := s1 hm
            exact ⟨fun hx => by rw [pLoop_ok hz' e']; exact r1 hx, fun hx B => by rw [pLoop_ok hz' e']; exact r2 hx B⟩
          · have := loop_le g F m1 (acc ++ [d]) ds m h
            exact ⟨fun hx => absurd hx (by omega), fun _ B => pLoop_err hz' (s2 (by omega) B)⟩
theorem paper_stop (B : Bad ws' at_) : pPaper ws' f' at_ = .error at_ := by
  unfold pPaper
  rcases B with b | ⟨z, e, b⟩
  · rw [b]
  · rw [e]
    simp only []
    rw [b.ct]
theorem paper_sim (A : Agr ws ws' at_) (g : Good ws.length k f) (S : Sim ws' at_ f f') {n m : Nat} {d : Dat} (h : pPaper ws f n = .ok (d, m)) (hn : n ≤ at_) : (m ≤ at_ → pPaper ws' f' n = .ok (d, m)) ∧ (at_ < m → Bad ws' at_ → pPaper ws' f' n = .error at_) := by
  have hlt := (pPaper_well g h).lt
  by_cases hA : n = at_
  · subst hA
    exact ⟨fun hx => absurd hx (by omega), fun _ B => paper_stop B⟩
  have hn2 : n < at_ := by omega
  have es := A.same n hn2
  unfold pPaper at h ⊢
  rw [es]
  cases e : ws[n]? with
  | none =>
    rw [e] at h
    cases h
  | some z =>
    rw [e] at h
    simp only [] at h ⊢
    cases ec : counts.lookup z with
    | none =>
      rw [ec] at h
      cases h
    | some c =>
      rw [ec] at h
      simp only [] at h ⊢
      cases eq : pSeq f c (n + 1) [] with
      | error x =>
        rw [eq] at h
        cases h
      | ok p =>
        obtain ⟨ds, m1⟩ := p
        rw [eq] at h
        cases h
        obtain ⟨r1, r2⟩ := seq_sim g S c (n + 1) [] ds m eq (by omega)
        exact ⟨fun hx => by rw [r1 hx], fun hx B => by rw [r2 hx B]⟩
end
theorem at_stop {ws' : List Str} {at_ : Nat} {f? : Option Rd1} (B : Bad ws' at_) : pAt ws' f? at_ = .error at_ := by
  unfold pAt
  rcases B with b | ⟨z, e, b⟩
  · rw [b]
  · rw [e]
    simp only []
    rw [if_neg (fun q => b.m (by rcases q with q | q <;> rw [q] <;> decide +kernel)), if_neg (fun q => b.m (by rw [q]; decide +kernel)), if_neg (by rw [b.wr]; exact Bool.false_ne_true), if_neg (by rw [b.nm]; exact Bool.false_ne_true)]
theorem at_sim {ws ws' : List Str} {at_ k : Nat} (A : Agr ws ws' at_) {f? f?' : Option Rd1} (g : ∀ f, f? = some f → Good ws.length k f) (S : ∀ f, f? = some f → ∃ f', f?' = some f' ∧ Sim ws' at_ f f' ∧ Stops ws' at_ f') (hN : f? = none → f?' = none) {k2 : Nat} (g2 : Good ws.length k2 (pAt ws f?)) :
    Sim ws' at_ (pAt ws f?) (pAt ws' f?') := by
  intro n d m h hn
  have hlt := (g2 n d m h).lt
  by_cases hA : n = at_
  · subst hA
    exact ⟨fun hx => absurd hx (by omega), fun _ B => at_stop B⟩
  have hn2 : n < at_ := by omega
  have es := A.same n hn2
  unfold pAt at h ⊢
  rw [es]
  cases e : ws[n]? with
  | none =>
    rw [e] at h
    cases h
  | some z =>
    rw [e] at h
    simp only [] at h ⊢
    by_cases hb : z = ("(" : Str) ∨ z = ("[" : Str)
    · rw [if_pos hb] at h ⊢
      cases f? with
      | none => cases h
      | some f =>
        obtain ⟨f', e', Sf, Stf⟩ := S f rfl
        have gf := g f rfl
        rw [e']
        simp only [] at h ⊢
        unfold pDeep at h ⊢
        by_cases hq : z = ("[" : Str)
        · rw [if_pos hq] at h ⊢
          cases ep : pPaper ws f (n + 1) with
          | error x =>
            rw [ep] at h
            cases h
          | ok p =>
            obtain ⟨pp, m1⟩ := p
            rw [ep] at h
            simp only [] at h
            by_cases h1 : ws[m1]? = some ("]" : Str)
            · rw [if_pos h1] at h
              cases h
              obtain ⟨r1, r2⟩ := paper_sim (f' := f') A gf Sf ep (by omega)
              refine ⟨fun hx => ?_, fun hx B => ?_⟩
              · rw [r1 (by omega)]
                simp only []
                rw [if_pos (by rw [A.same m1 (by omega)]; exact h1)]
              · by_cases hm : m1 ≤ at_
                · obtain rfl : m1 = at_ := by omega
                  rw [r1 hm]
                  simp only []
                  rw [if_neg (bad_ne B (by decide +kernel))]
                · rw [r2 (by omega) B]
            · rw [if_neg h1] at h
              cases h
        · rw [if_neg hq] at h ⊢
          cases ep : pLoop ws f (ws.length + 1) (n + 1) [] with
          | error x =>
            rw [ep] at h
            cases h
          | ok p =>
            obtain ⟨ds, m1⟩ := p
            rw [ep] at h
            cases h
            obtain ⟨r1, r2⟩ := loop_sim A gf Sf Stf (ws.length + 1) (n + 1) [] ds m (ws'.length + 1) ep (by omega) (by omega)
            exact ⟨fun hx => by rw [r1 hx], fun hx B => by rw [r2 hx B]⟩
    · rw [if_neg hb] at h ⊢
      by_cases h1 : z = ("-" : Str)
      · rw [if_pos h1] at h ⊢
        cases h
        exact ⟨fun _ => rfl, fun hx => absurd hx (by omega)⟩
      · rw [if_neg h1] at h ⊢
        by_cases h2 : isWr z = true
        · rw [if_pos h2] at h ⊢
          cases h
          exact ⟨fun _ => rfl, fun hx => absurd hx (by omega)⟩
        · rw [if_neg h2] at h ⊢
          by_cases h3 : isNm z = true
          · rw [if_pos h3] at h ⊢
            cases h
            exact ⟨fun _ => rfl, fun hx => absurd hx (by omega)⟩
          · rw [if_neg h3] at h
            cases h
theorem item_stop {ws' : List Str} {at_ : Nat} : ∀ k, Stops ws' at_ (pItem ws' k)
  | 0 => fun B => at_stop B
  | k + 1 => fun B => at_stop B
theorem item_sim {ws ws' : List Str} {at_ : Nat} (A : Agr ws ws' at_) : ∀ k, Sim ws' at_ (pItem ws k) (pItem ws' k)
  | 0 => at_sim (k := 0) A (fun f e => by cases e) (fun f e => by cases e) (fun _ => rfl) (pItem_well ws 0)
  | k + 1 => at_sim (k := k) A (fun f e => by cases e; exact pItem_well ws k) (fun f e => by cases e; exact ⟨_, rfl, item_sim A k, item_stop k⟩) (fun e => by cases e) (pItem_well ws (k + 1))
/-- a bad word in a text that is read -/
theorem whole_bad {ws ws' : List Str} {at_ : Nat} {d : Dat} (h : pWhole ws = .ok d) (A : Agr ws ws' at_) (hl : at_ < ws.length) (B : Bad ws' at_) : pWhole ws' = .error at_ := by
  unfold pWhole at h ⊢
  cases ep : pPaper ws (pItem ws 20) 0 with
  | error x =>
    rw [ep] at h
    cases h
  | ok p =>
    obtain ⟨pp, m⟩ := p
    rw [ep] at h
    simp only [] at h
    by_cases hm : m < ws.length
    · rw [if_pos hm] at h
      cases h
    · obtain ⟨_, r2⟩ := paper_sim (f' := pItem ws' 20) A (pItem_well ws 20) (item_sim A 20) ep (Nat.zero_le _)
      rw [r2 (by omega) B]
/-- a word more -/
theorem whole_more {ws : List Str} {d : Dat} {z : Str} (h : pWhole ws = .ok d) : pWhole (ws ++ [z]) = .error ws.length := by
  unfold pWhole at h ⊢
  cases ep : pPaper ws (pItem ws 20) 0 with
  | error x =>
    rw [ep] at h
    cases h
  | ok p =>
    obtain ⟨pp, m⟩ := p
    rw [ep] at h
    simp only [] at h
    by_cases hm : m < ws.length
    · rw [if_pos hm] at h
      cases h
    · have hle := (pPaper_well (pItem_well ws 20) ep).le
      have A : Agr ws (ws ++ [z]) ws.length := ⟨fun i hi => List.getElem?_append_left hi, by rw [List.length_append]; omega⟩
      obtain ⟨r1, _⟩ := paper_sim (f' := pItem (ws ++ [z]) 20) A (pItem_well ws 20) (item_sim A 20) ep (Nat.zero_le _)
      rw [r1 hle]
      simp only []
      obtain rfl : m = ws.length := by omega
      rw [if_pos (by rw [List.length_append, List.length_singleton]; omega)]
end K6
end
section -- KG1
set_option maxHeartbeats 4000000
/-! The law's draws: some number below many, whatever the script says. -/
namespace K6
open PySem PySem.Spec PyProof.Rows L2 NdefX
theorem ints_lay : ∀ ns : List Int, PyData.canLayAll0 (ns.map PyData.int) = true
  | [] => by simp [PyData.canLayAll0]
  | n :: r => by simp [PyData.canLayAll0, PyData.canLay0, ints_lay r]
theorem ints_depth : ∀ ns : List Int, PyData.depthAll (ns.map PyData.int) ≤ 1
  | [] => by simp [PyData.depthAll]
  | n :: r => by
    have h := ints_depth r
    simp only [List.map_cons, PyData.depthAll, PyData.depth]
    omega
theorem ints_shaped (ns : List Int) : SeqAt.shaped (.list (ns.map PyData.int)) = true := by
  have h := ints_depth ns
  have h2 : PyData.depth (.list (ns.map PyData.int)) ≤ 64 := by
    simp only [PyData.depth]
    omega
  show (PyData.canLay0 _ && decide _) = true
  rw [Bool.and_eq_true]
  exact ⟨by simp only [PyData.canLay0]; exact ints_lay ns, decide_eq_true h2⟩
theorem dp_ints {K : PySem.W.Frag} {H : Hp} : ∀ ns : List Int, DpAll K H (ns.map V.int) (ns.map PyData.int)
  | [] => .nil
  | n :: r => .cons (.int n) (dp_ints r)
/-- the pen: the script's cells, the turn, what is left of a great cell -/
structure PenS (H : Hp) (pn cl : Addr) (cells : List Int) (t r : Int) : Prop where
  hp : H pn = some (.lst [.ref cl, .int t, .int r])
  hc : H cl = some (.lst (cells.map V.int))
  ne : cl ≠ pn
  n : cells.length ≤ 63
  t0 : 0 ≤ t
theorem PenS.mono {H H' : Hp} {pn cl : Addr} {cells : List Int} {t r : Int} (h : PenS H pn cl cells t r) (s : Same H H') : PenS H' pn cl cells t r := ⟨s _ _ h.hp, s _ _ h.hc, h.ne, h.n, h.t0⟩
section
variable {P : Program} {w : World} {K : PySem.W.Frag} {mg : Str → Option Value} {base : Heap}
def tMax : Int := 1048576
/-- what may come of a draw -/
def spDraw : Sp := fun vs H Q _ => ∃ (pn cl : Addr) (cells : List Int) (t r many : Int), vs = [.ref pn, .int many] ∧ PenS H pn cl cells t r ∧ t < tMax ∧ 0 < many ∧ many < 1073741824 ∧
  ∀ H' v t' r', SameBut pn H H' → PenS H' pn cl cells t' r' → t ≤ t' → t' ≤ t + 1 → 0 ≤ v → v < many → Q (.int v) H'
theorem sc_draw : FnScope ["pen", "many", "rest", "turn", "cell", "mixed"] ["pen", "many"] (defScope (top 88)) := ⟨rfl, rfl, rfl, by decide +kernel, rfl, by decide +kernel, by decide +kernel⟩
theorem d_draw (T : Txt w K mg) {fd : FuncData} (F : FnT K "_law_draw" 88 fd) : Dfn P w K mg base CX0 1 "_law_draw" ["pen", "many"] spDraw := by
  refine dfn_mk F (T.g _ (by decide +kernel)) (fun _ _ _ _ _ _ us hl => match us, hl with | [_, _], _ => rfl) (F.ok sc_draw (fun vs H Q E h => by obtain ⟨pn, cl, cells, t, r, many, rfl, _⟩ := h; rfl) fun cdv A outer s H vs Q E hr h => ?_)
  have mL := T.z "len" (by decide +kernel)
  have mA := T.z "abs" (by decide +kernel)
  have mN := T.z "int" (by decide +kernel)
  have ND := sc_draw.nd
  refine ⟨_, PSs.nox (pss_cons (ps_if (pt_cmpR op_gt (pe_ix ix_list (pv 0) pe_int (fun _ _ => rfl)) pe_int (nomark _))
      (pss_cons (ps_set (i := 2) ND rfl (Or.inl rfl) (pe_callTy call_int1 rfl mN (by decide +kernel) (pa_cons (pe_ix ix_list (pv 0) pe_int (fun _ _ => rfl)) pa_nil)))
      (pss_cons (ps_asg (pe_op op_fdiv (pv 2) (pv 1)) (pg_sub (pv 0) pe_int set_list))
      (pss_one (ps_ret (pe_op op_mod (pe_callTy call_int1 rfl mN (by decide +kernel) (pa_cons (pv 2) pa_nil)) (pv 1)))))) pss_nil)
    (pss_cons (ps_set (i := 3) ND rfl (Or.inl rfl) (pe_ix ix_list (pv 0) pe_int (fun _ _ => rfl)))
    (pss_cons (ps_asg (pe_op op_add (pv 3) pe_int) (pg_sub (pv 0) pe_int set_list))
    (pss_cons (ps_set (i := 4) ND rfl (Or.inl rfl) (pe_op op_add (pe_op op_mul pe_int (pv 3)) pe_int))
    (pss_cons (ps_if (pt_cmpR (op_neD (by have := hr.units; exact this)) (pe_ix ix_list (pv 0) pe_int (fun _ _ => rfl)) (pe_lst pa_nil) (nomark _))
      (pss_one (ps_set (i := 4) ND rfl (Or.inl rfl) (pe_ix ix_list (pe_ix ix_list (pv 0) pe_int (fun _ _ => rfl)) (pe_op op_mod (pe_callTy call_int1 rfl mN (by decide +kernel) (pa_cons (pv 3) pa_nil)) (pe_callB call_len_seq rfl mL PySem.boot_len (pa_cons (pe_ix ix_list (pv 0) pe_int (fun _ _ => rfl)) pa_nil))) (fun _ _ => rfl)))) pss_nil)
    (pss_cons (ps_if (PW.pt (pw_and (pt_cmpR op_lt (pv 3) (pe_callB call_len_seq rfl mL PySem.boot_len (pa_cons (pe_ix ix_list (pv 0) pe_int (fun _ _ => rfl)) pa_nil)) (nomark _)) (pw_and1 (pt_cmpR op_ge (pe_callB call_abs rfl mA (by decide +kernel) (pa_cons (pv 4) pa_nil)) (pe_op op_pow pe_int pe_int) (nomark _)))))
      (pss_cons (ps_set (i := 2) ND rfl (Or.inl rfl) (pe_op op_add (pe_op op_mul pe_int (pe_op op_sub (pe_callB call_abs rfl mA (by decide +kernel) (pa_cons (pv 4) pa_nil)) (pe_op op_pow pe_int pe_int))) (pe_callTy call_int1 rfl mN (by decide +kernel) (pa_cons (pe_cmpR op_lt (pv 4) pe_int (nomark _)) pa_nil))))
      (pss_cons (ps_asg (pe_op op_fdiv (pe_callTy call_int1 rfl mN (by decide +kernel) (pa_cons (pv 2) pa_nil)) (pv 1)) (pg_sub (pv 0) pe_int set_list))
      (pss_one (ps_ret (pe_op op_mod (pe_callTy call_int1 rfl mN (by decide +kernel) (pa_cons (pv 2) pa_nil)) (pv 1)))))) pss_nil)
    (pss_cons (ps_set (i := 5) ND rfl (Or.inl rfl) (pe_op op_mod (pe_callTy call_int1 rfl mN (by decide +kernel) (pa_cons (pe_op op_pow (pe_op op_add (pe_op op_add (pe_op op_mod (pe_callTy call_int1 rfl mN (by decide +kernel) (pa_cons (pv 4) pa_nil)) pe_int) (pe_op op_mul pe_int (pv 3))) pe_int) pe_int) pa_nil)) pe_int))
    (pss_cons (ps_set (i := 5) ND rfl (Or.inl rfl) (pe_op op_mod (pe_callTy call_int1 rfl mN (by decide +kernel) (pa_cons (pe_op op_pow (pe_op op_add (pe_op op_add (pe_op op_mul (pv 5) (pe_op op_add (pe_op op_mul pe_int (pv 3)) pe_int)) (pe_op op_mul (pe_op op_mul pe_int (pv 3)) (pv 3))) pe_int) pe_int) pa_nil)) pe_int))
    (pss_one (ps_ret (pe_op op_mod (pe_callTy call_int1 rfl mN (by decide +kernel) (pa_cons (pe_op op_fdiv (pv 5) pe_int) pa_nil)) (pv 1)))))))))))), ?_⟩
  obtain ⟨pn, cl, cells, t, r, many, rfl, S, ht, h0, h1, q⟩ := h
  have lst_ : ∀ {H' : Hp} {a b c : V} {i : Nat} {v : V}, H' pn = some (.lst [a, b, c]) → ([a, b, c] : List V)[i]? = some v → SqL K H' pn [a, b, c] ∧ atI ([a, b, c] : List V) (i : Int) = some v := fun e h => ⟨SqL.of e, atI_nat h⟩
  have fin : ∀ (x y : Int) (t' r' : Int) (H1 : Hp), SameBut pn H H1 → H1 pn = some (.lst [.ref cl, .int t', .int r']) → t ≤ t' → t' ≤ t + 1 → Q (.int (x % many)) H1 := fun x y t' r' H1 sb e l1 l2 =>
    q _ _ t' r' sb ⟨e, sb _ _ S.ne S.hc, S.ne, S.n, Int.le_trans S.t0 l1⟩ l1 l2 (Int.emod_nonneg _ (by omega)) (Int.emod_lt_of_pos _ h0)
  refine ⟨_, rfl, pn, _, _, _, rfl, rfl, SqL.of S.hp, atI_nat (j := 2) rfl, _, _, rfl, rfl, _, rfl, ?_⟩
  by_cases hr0 : (0 : Int) < r
  · rw [decide_eq_true hr0]
    refine iteT ⟨_, rfl, pn, _, _, _, rfl, rfl, SqL.of S.hp, atI_nat (j := 2) rfl, .inl ⟨_, rfl, ?_⟩⟩
    refine ⟨_, rfl, _, rfl, _, _, rfl, rfl, ⟨h0, h1⟩, _, rfl, pn, _, _, 2, rfl, rfl, S.hp, rfl, ?_⟩
    refine ⟨_, rfl, .inl ⟨_, rfl, _, rfl, _, _, rfl, rfl, h0, ?_⟩⟩
    exact fin _ 0 t (r / many) _ SameBut.upd upd_same (Int.le_refl _) (by omega)
  · rw [decide_eq_false hr0]
    have t0 := S.t0
    have ht : t < 1048576 := ht
    refine iteF ⟨_, rfl, pn, _, _, _, rfl, rfl, SqL.of S.hp, atI_nat (j := 1) rfl, ?_⟩
    refine ⟨_, rfl, _, _, rfl, rfl, _, rfl, pn, _, _, 1, rfl, rfl, S.hp, rfl, ?_⟩
    have e1 : upd H pn (.lst (([.ref cl, .int t, .int r] : List V).set 1 (.int (t + 1)))) pn = some (.lst [.ref cl, .int (t + 1), .int r]) := upd_same
    have sb1 : SameBut pn H (upd H pn (.lst (([.ref cl, .int t, .int r] : List V).set 1 (.int (t + 1))))) := SameBut.upd
    generalize upd H pn (.lst (([.ref cl, .int t, .int r] : List V).set 1 (.int (t + 1)))) = H1 at e1 sb1
    have c1 : H1 cl = some (.lst (cells.map V.int)) := sb1 _ _ S.ne S.hc
    refine ⟨_, rfl, _, _, rfl, rfl, .inl ⟨by decide, by decide⟩, _, _, rfl, rfl, ?_⟩
    refine ⟨_, rfl, pn, _, _, _, rfl, rfl, SqL.of e1, atI_nat (j := 0) rfl, by decide, fun l nl => ?_⟩
    have s2 : Same H1 (upd H1 l (.lst [])) := Same.new nl
    have el : upd H1 l (.lst []) l = some (.lst []) := upd_same
    generalize upd H1 l (.lst []) = H2 at s2 el
    have e2 := s2 _ _ e1
    have c2 := s2 _ _ c1
    have sb2 : SameBut pn H H2 := sb1.trans (Same.but s2)
    refine ⟨_, _, .lst (SqL.of c2) (dp_ints cells), .lst (SqL.of el) .nil, ints_shaped cells, by decide +kernel, _, rfl, ?_⟩
    have eqv0 : ∀ l : List Int, (!PyData.eqv (.list (l.map PyData.int)) (.list [])) = !l.isEmpty := fun l => by cases l <;> simp [PyData.eqv, PyData.eqvAll]
    rw [eqv0]
    by_cases hcells : cells = []
    · rw [show (!cells.isEmpty) = false by rw [hcells]; rfl]
      refine iteF ?_
      obtain ⟨c, hc⟩ : ∃ c : Int, 95203 * t + 13127 = c := ⟨_, rfl⟩
      have hcc : [V.int (95203 * t + 13127)] = [V.int c] := by rw [hc]
      refine ⟨_, rfl, _, rfl, pn, _, _, _, rfl, rfl, SqL.of e2, atI_nat (j := 0) rfl, cl, _, rfl, .inl (SqL.of c2), _, _, rfl, rfl, _, rfl, ?_⟩
      have hc1 : 0 ≤ c % 2147483549 := Int.emod_nonneg _ (by decide)
      have hc2 : c % 2147483549 < 2147483549 := Int.emod_lt_of_pos _ (by decide)
      by_cases hl : t < ((cells.map V.int).length : Int)
      · rw [decide_eq_true hl]
        refine iteT ⟨_, rfl, c, hcc, _, _, rfl, rfl, ⟨by decide, by decide, by decide⟩, _, _, rfl, rfl, _, rfl, ?_⟩
        refine ite2 (fun hg => ?_) fun hg => ?_
        · refine ⟨_, rfl, c, hcc, _, _, rfl, rfl, ⟨by decide, by decide, by decide⟩, _, _, rfl, rfl, _, _, rfl, rfl, .inl ⟨by decide, by decide⟩, _, rfl, _, _, rfl, rfl, .inr ⟨_, rfl, _, _, rfl, rfl, ?_⟩⟩
          refine ⟨_, rfl, .inl ⟨_, rfl, _, rfl, _, _, rfl, rfl, ⟨h0, h1⟩, _, rfl, pn, _, _, 2, rfl, rfl, e2, rfl, ?_⟩⟩
          refine ⟨_, rfl, .inl ⟨_, rfl, _, rfl, _, _, rfl, rfl, h0, ?_⟩⟩
          exact fin _ 0 (t + 1) _ _ (sb2.trans SameBut.upd) upd_same (by omega) (by omega)
        · refine ⟨_, rfl, .inl ⟨c, hcc, _, _, rfl, rfl, (show (0 : Int) < 2147483549 by decide), _, rfl, _, _, rfl, rfl, .inl ⟨by decide, by decide⟩, _, _, rfl, rfl, _, _, rfl, rfl, _, _, rfl, rfl, ⟨by decide, by decide, by omega⟩, .inl ⟨_, rfl, _, _, rfl, rfl, (show (0 : Int) < 2147483629 by decide), ?_⟩⟩⟩
          have hx1 : 0 ≤ ((c % 2147483549 + 95203 * t + 13127) ^ (5 : Int).toNat) % 2147483629 := Int.emod_nonneg _ (by decide)
          have hx2 : ((c % 2147483549 + 95203 * t + 13127) ^ (5 : Int).toNat) % 2147483629 < 2147483629 := Int.emod_lt_of_pos _ (by decide)
          obtain ⟨x, hx⟩ : ∃ x : Int, ((c % 2147483549 + 95203 * t + 13127) ^ (5 : Int).toNat) % 2147483629 = x := ⟨_, rfl⟩
          rw [hx] at hx1 hx2
          have b1 : 0 ≤ x * (2 * t + 7193) := Int.mul_nonneg hx1 (by omega)
          have b2 : x * (2 * t + 7193) ≤ 2147483629 * 2104345 := Int.mul_le_mul (by omega) (by omega) (by omega) (by decide)
          have b3 : 0 ≤ 38011 * t * t := Int.mul_nonneg (by omega) t0
          have b4 : 38011 * t * t ≤ 39857422336 * 1048576 := Int.mul_le_mul (by omega) (by omega) t0 (by decide)
          refine ⟨_, rfl, _, rfl, _, _, rfl, rfl, .inl ⟨by decide, by decide⟩, _, _, rfl, rfl, x, _, congrArg V.int hx, rfl, .inl ⟨by omega, by omega⟩, _, rfl, _, _, rfl, rfl, .inl ⟨by decide, by decide⟩, _, rfl, _, _, rfl, rfl, .inl ⟨by omega, by omega⟩, _, _, rfl, rfl, _, _, rfl, rfl, _, _, rfl, rfl, ⟨by decide, by decide, by omega⟩, .inl ⟨_, rfl, _, _, rfl, rfl, (show (0 : Int) < 2147483587 by decide), ?_⟩⟩
          refine ⟨_, rfl, _, _, rfl, rfl, ⟨by decide, by decide⟩, .inl ⟨_, rfl, _, rfl, _, _, rfl, rfl, h0, ?_⟩⟩
          exact fin _ 0 (t + 1) r _ sb2 e2 (by omega) (by omega)
      · rw [decide_eq_false hl]
        refine iteF (iteF ?_)
        refine ⟨_, rfl, .inl ⟨c, hcc, _, _, rfl, rfl, (show (0 : Int) < 2147483549 by decide), _, rfl, _, _, rfl, rfl, .inl ⟨by decide, by decide⟩, _, _, rfl, rfl, _, _, rfl, rfl, _, _, rfl, rfl, ⟨by decide, by decide, by omega⟩, .inl ⟨_, rfl, _, _, rfl, rfl, (show (0 : Int) < 2147483629 by decide), ?_⟩⟩⟩
        have hx1 : 0 ≤ ((c % 2147483549 + 95203 * t + 13127) ^ (5 : Int).toNat) % 2147483629 := Int.emod_nonneg _ (by decide)
        have hx2 : ((c % 2147483549 + 95203 * t + 13127) ^ (5 : Int).toNat) % 2147483629 < 2147483629 := Int.emod_lt_of_pos _ (by decide)
        obtain ⟨x, hx⟩ : ∃ x : Int, ((c % 2147483549 + 95203 * t + 13127) ^ (5 : Int).toNat) % 2147483629 = x := ⟨_, rfl⟩
        rw [hx] at hx1 hx2
        have b1 : 0 ≤ x * (2 * t + 7193) := Int.mul_nonneg hx1 (by omega)
        have b2 : x * (2 * t + 7193) ≤ 2147483629 * 2104345 := Int.mul_le_mul (by omega) (by omega) (by omega) (by decide)
        have b3 : 0 ≤ 38011 * t * t := Int.mul_nonneg (by omega) t0
        have b4 : 38011 * t * t ≤ 39857422336 * 1048576 := Int.mul_le_mul (by omega) (by omega) t0 (by decide)
        refine ⟨_, rfl, _, rfl, _, _, rfl, rfl, .inl ⟨by decide, by decide⟩, _, _, rfl, rfl, x, _, congrArg V.int hx, rfl, .inl ⟨by omega, by omega⟩, _, rfl, _, _, rfl, rfl, .inl ⟨by decide, by decide⟩, _, rfl, _, _, rfl, rfl, .inl ⟨by omega, by omega⟩, _, _, rfl, rfl, _, _, rfl, rfl, _, _, rfl, rfl, ⟨by decide, by decide, by omega⟩, .inl ⟨_, rfl, _, _, rfl, rfl, (show (0 : Int) < 2147483587 by decide), ?_⟩⟩
        refine ⟨_, rfl, _, _, rfl, rfl, ⟨by decide, by decide⟩, .inl ⟨_, rfl, _, rfl, _, _, rfl, rfl, h0, ?_⟩⟩
        exact fin _ 0 (t + 1) r _ sb2 e2 (by omega) (by omega)
    · have hpos : 0 < cells.length := List.length_pos_iff.mpr hcells
      have hne : (!cells.isEmpty) = true := by
        cases cells with
        | nil => exact absurd rfl hcells
        | cons => rfl
      rw [hne]
      have hlen : (0 : Int) < ((cells.map V.int).length : Int) := by rw [List.length_map]; omega
      have m1 : 0 ≤ t % ((cells.map V.int).length : Int) := Int.emod_nonneg _ (by omega)
      have m2 : t % ((cells.map V.int).length : Int) < ((cells.map V.int).length : Int) := Int.emod_lt_of_pos _ hlen
      obtain ⟨c, hc⟩ : ∃ c, atI (cells.map V.int) (t % ((cells.map V.int).length : Int)) = some (.int c) := by
        generalize t % ((cells.map V.int).length : Int) = j at m1 m2
        obtain ⟨n, rfl⟩ : ∃ n : Nat, j = n := ⟨j.toNat, by omega⟩
        have hn : n < cells.length := by rw [List.length_map] at m2; omega
        exact ⟨cells[n], atI_nat (by rw [List.getElem?_map, List.getElem?_eq_getElem hn]; rfl)⟩
      refine iteT ⟨_, rfl, pn, _, _, _, rfl, rfl, SqL.of e2, atI_nat (j := 0) rfl, _, rfl, .inl ⟨_, rfl, _, rfl, pn, _, _, _, rfl, rfl, SqL.of e2, atI_nat (j := 0) rfl, cl, _, rfl, .inl (SqL.of c2), _, _, rfl, rfl, hlen, cl, _, _, _, rfl, rfl, SqL.of c2, hc, ?_⟩⟩
      have hcc : [V.int c] = [V.int c] := rfl
      refine ⟨_, rfl, _, rfl, pn, _, _, _, rfl, rfl, SqL.of e2, atI_nat (j := 0) rfl, cl, _, rfl, .inl (SqL.of c2), _, _, rfl, rfl, _, rfl, ?_⟩
      have hc1 : 0 ≤ c % 2147483549 := Int.emod_nonneg _ (by decide)
      have hc2 : c % 2147483549 < 2147483549 := Int.emod_lt_of_pos _ (by decide)
      by_cases hl : t < ((cells.map V.int).length : Int)
      · rw [decide_eq_true hl]
        refine iteT ⟨_, rfl, c, hcc, _, _, rfl, rfl, ⟨by decide, by decide, by decide⟩, _, _, rfl, rfl, _, rfl, ?_⟩
        refine ite2 (fun hg => ?_) fun hg => ?_
        · refine ⟨_, rfl, c, hcc, _, _, rfl, rfl, ⟨by decide, by decide, by decide⟩, _, _, rfl, rfl, _, _, rfl, rfl, .inl ⟨by decide, by decide⟩, _, rfl, _, _, rfl, rfl, .inr ⟨_, rfl, _, _, rfl, rfl, ?_⟩⟩
          refine ⟨_, rfl, .inl ⟨_, rfl, _, rfl, _, _, rfl, rfl, ⟨h0, h1⟩, _, rfl, pn, _, _, 2, rfl, rfl, e2, rfl, ?_⟩⟩
          refine ⟨_, rfl, .inl ⟨_, rfl, _, rfl, _, _, rfl, rfl, h0, ?_⟩⟩
          exact fin _ 0 (t + 1) _ _ (sb2.trans SameBut.upd) upd_same (by omega) (by omega)
        · refine ⟨_, rfl, .inl ⟨c, hcc, _, _, rfl, rfl, (show (0 : Int) < 2147483549 by decide), _, rfl, _, _, rfl, rfl, .inl ⟨by decide, by decide⟩, _, _, rfl, rfl, _, _, rfl, rfl, _, _, rfl, rfl, ⟨by decide, by decide, by omega⟩, .inl ⟨_, rfl, _, _, rfl, rfl, (show (0 : Int) < 2147483629 by decide), ?_⟩⟩⟩
          have hx1 : 0 ≤ ((c % 2147483549 + 95203 * t + 13127) ^ (5 : Int).toNat) % 2147483629 := Int.emod_nonneg _ (by decide)
          have hx2 : ((c % 2147483549 + 95203 * t + 13127) ^ (5 : Int).toNat) % 2147483629 < 2147483629 := Int.emod_lt_of_pos _ (by decide)
          obtain ⟨x, hx⟩ : ∃ x : Int, ((c % 2147483549 + 95203 * t + 13127) ^ (5 : Int).toNat) % 2147483629 = x := ⟨_, rfl⟩
          rw [hx] at hx1 hx2
          have b1 : 0 ≤ x * (2 * t + 7193) := Int.mul_nonneg hx1 (by omega)
          have b2 : x * (2 * t + 7193) ≤ 2147483629 * 2104345 := Int.mul_le_mul (by omega) (by omega) (by omega) (by decide)
          have b3 : 0 ≤ 38011 * t * t := Int.mul_nonneg (by omega) t0
          have b4 : 38011 * t * t ≤ 39857422336 * 1048576 := Int.mul_le_mul (by omega) (by omega) t0 (by decide)
          refine ⟨_, rfl, _, rfl, _, _, rfl, rfl, .inl ⟨by decide, by decide⟩, _, _, rfl, rfl, x, _, congrArg V.int hx, rfl, .inl ⟨by omega, by omega⟩, _, rfl, _, _, rfl, rfl, .inl ⟨by decide, by decide⟩, _, rfl, _, _, rfl, rfl, .inl ⟨by omega, by omega⟩, _, _, rfl, rfl, _, _, rfl, rfl, _, _, rfl, rfl, ⟨by decide, by decide, by omega⟩, .inl ⟨_, rfl, _, _, rfl, rfl, (show (0 : Int) < 2147483587 by decide), ?_⟩⟩
          refine ⟨_, rfl, _, _, rfl, rfl, ⟨by decide, by decide⟩, .inl ⟨_, rfl, _, rfl, _, _, rfl, rfl, h0, ?_⟩⟩
          exact fin _ 0 (t + 1) r _ sb2 e2 (by omega) (by omega)
      · rw [decide_eq_false hl]
        refine iteF (iteF ?_)
        refine ⟨_, rfl, .inl ⟨c, hcc, _, _, rfl, rfl, (show (0 : Int) < 2147483549 by decide), _, rfl, _, _, rfl, rfl, .inl ⟨by decide, by decide⟩, _, _, rfl, rfl, _, _, rfl, rfl, _, _, rfl, rfl, ⟨by decide, by decide, by omega⟩, .inl ⟨_, rfl, _, _, rfl, rfl, (show (0 : Int) < 2147483629 by decide), ?_⟩⟩⟩
        have hx1 : 0 ≤ ((c % 2147483549 + 95203 * t + 13127) ^ (5 : Int).toNat) % 2147483629 := Int.emod_nonneg _ (by decide)
        have hx2 : ((c % 2147483549 + 95203 * t + 13127) ^ (5 : Int).toNat) % 2147483629 < 2147483629 := Int.emod_lt_of_pos _ (by decide)
        obtain ⟨x, hx⟩ : ∃ x : Int, ((c % 2147483549 + 95203 * t + 13127) ^ (5 : Int).toNat) % 2147483629 = x := ⟨_, rfl⟩
        rw [hx] at hx1 hx2
        have b1 : 0 ≤ x * (2 * t + 7193) := Int.mul_nonneg hx1 (by omega)
        have b2 : x * (2 * t + 7193) ≤ 2147483629 * 2104345 := Int.mul_le_mul (by omega) (by omega) (by omega) (by decide)
        have b3 : 0 ≤ 38011 * t * t := Int.mul_nonneg (by omega) t0
        have b4 : 38011 * t * t ≤ 39857422336 * 1048576 := Int.mul_le_mul (by omega) (by omega) t0 (by decide)
        refine ⟨_, rfl, _, rfl, _, _, rfl, rfl, .inl ⟨by decide, by decide⟩, _, _, rfl, rfl, x, _, congrArg V.int hx, rfl, .inl ⟨by omega, by omega⟩, _, rfl, _, _, rfl, rfl, .inl ⟨by decide, by decide⟩, _, rfl, _, _, rfl, rfl, .inl ⟨by omega, by omega⟩, _, _, rfl, rfl, _, _, rfl, rfl, _, _, rfl, rfl, ⟨by decide, by decide, by omega⟩, .inl ⟨_, rfl, _, _, rfl, rfl, (show (0 : Int) < 2147483587 by decide), ?_⟩⟩
        refine ⟨_, rfl, _, _, rfl, rfl, ⟨by decide, by decide⟩, .inl ⟨_, rfl, _, rfl, _, _, rfl, rfl, h0, ?_⟩⟩
        exact fin _ 0 (t + 1) r _ sb2 e2 (by omega) (by omega)
end
end K6
end
section -- KG2
set_option maxHeartbeats 1000000
/-! _law_pen, _law_pick, _law_counts (printed by gen_g2.py). -/
namespace K6
open PySem PySem.Spec PyProof.Rows L2 NdefX
section
variable {P : Program} {w : World} {K : PySem.W.Frag} {mg : Str → Option Value} {base : Heap}
/-! ### _law_pick -/
def spPick : Sp := fun vs H Q _ => ∃ (pn cl l : Addr) (cells : List Int) (t r : Int) (xs : List V), vs = [.ref pn, .ref l] ∧ PenS H pn cl cells t r ∧ t < tMax ∧ H l = some (.lst xs) ∧ l ≠ pn ∧ 0 < xs.length ∧ xs.length < 1000 ∧
  ∀ (H' : Hp) (i : Nat) (x : V) (t' r' : Int), SameBut pn H H' → PenS H' pn cl cells t' r' → t ≤ t' → t' ≤ t + 1 → xs[i]? = some x → Q x H'
theorem sc_pick : FnScope ["pen", "some"] ["pen", "some"] (defScope (top 89)) := ⟨rfl, rfl, rfl, by decide +kernel, rfl, by decide +kernel, by decide +kernel⟩
theorem d_pick (T : Txt w K mg) {fd0 fd : FuncData} (F0 : FnT K "_law_draw" 88 fd0) (F : FnT K "_law_pick" 89 fd) : Dfn P w K mg base CX0 2 "_law_pick" ["pen", "some"] spPick := by
  have D := d_draw (P := P) (base := base) T F0
  refine dfn_mk F (T.g _ (by decide +kernel)) (fun _ _ _ _ _ _ us hl => match us, hl with | [_, _], _ => rfl) (F.ok sc_pick (fun vs H Q E h => by obtain ⟨pn, cl, l, cells, t, r, xs, rfl, _⟩ := h; rfl) fun cdv A outer s H vs Q E hr h => ?_)
  have mL := T.z "len" (by decide +kernel)
  refine ⟨_, PSs.nox (pss_one (ps_ret (pe_ix ix_list (pv 1) (pe_d D hr pass0 (pa_cons (pv 0) (pa_cons (pe_callB call_len_seq rfl mL PySem.boot_len (pa_cons (pv 1) pa_nil)) pa_nil))) (fun _ _ => rfl)))), ?_⟩
  obtain ⟨pn, cl, l, cells, t, r, xs, rfl, S, ht, hl, ne, h0, h1, q⟩ := h
  refine ⟨_, rfl, _, rfl, _, rfl, l, _, rfl, .inl (SqL.of hl), pn, cl, cells, t, r, _, rfl, S, ht, by omega, by omega, fun H' v t' r' sb S' l1 l2 v0 v1 => ?_⟩
  obtain ⟨i, rfl⟩ : ∃ i : Nat, v = i := ⟨v.toNat, by omega⟩
  have hi : i < xs.length := by omega
  have e : xs[i]? = some xs[i] := List.getElem?_eq_getElem hi
  exact ⟨l, xs, i, xs[i], rfl, rfl, SqL.of (sb _ _ ne hl), atI_nat e, q H' i _ t' r' sb S' l1 l2 e⟩
/-! ### _law_counts -/
def PairsAt (H : Hp) : List Addr → List (Str × Nat) → Prop
  | [], [] => True
  | t :: ts, p :: ps => H t = some (.tup [.str p.1, .int (p.2 : Int)]) ∧ PairsAt H ts ps
  | _, _ => False
theorem PairsAt.mono {H H' : Hp} (s : Same H H') : ∀ {ts : List Addr} {ps : List (Str × Nat)}, PairsAt H ts ps → PairsAt H' ts ps
  | [], [], _ => trivial
  | t :: ts, p :: ps, h => ⟨s _ _ h.1, PairsAt.mono s h.2⟩
  | [], _ :: _, h => h.elim
  | _ :: _, [], h => h.elim
theorem PairsAt.len {H : Hp} : ∀ {ts : List Addr} {ps : List (Str × Nat)}, PairsAt H ts ps → ts.length = ps.length
  | [], [], _ => rfl
  | t :: ts, p :: ps, h => congrArg (· + 1) (PairsAt.len h.2)
  | [], _ :: _, h => h.elim
  | _ :: _, [], h => h.elim
theorem PairsAt.app {H : Hp} : ∀ {ts : List Addr} {ps : List (Str × Nat)} {us : List Addr} {qs : List (Str × Nat)}, PairsAt H ts ps → PairsAt H us qs → PairsAt H (ts ++ us) (ps ++ qs)
  | [], [], _, _, _, h => h
  | t :: ts, p :: ps, _, _, h, k => ⟨h.1, PairsAt.app h.2 k⟩
  | [], _ :: _, _, _, h, _ => h.elim
  | _ :: _, [], _, _, h, _ => h.elim
theorem PairsAt.at {H : Hp} : ∀ {ts : List Addr} {ps : List (Str × Nat)} {i : Nat} {t : Addr}, PairsAt H ts ps → ts[i]? = some t → ∃ p, ps[i]? = some p ∧ H t = some (.tup [.str p.1, .int (p.2 : Int)])
  | [], [], i, t, _, h => by simp at h
  | u :: ts, p :: ps, 0, t, h, e => ⟨p, rfl, by rw [← Option.some.inj e]; exact h.1⟩
  | u :: ts, p :: ps, i + 1, t, h, e => PairsAt.at (i := i) h.2 e
  | [], _ :: _, _, _, h, _ => h.elim
  | _ :: _, [], _, _, h, _ => h.elim
def spCounts : Sp := fun vs H Q _ => vs = [] ∧ ∀ H' l ts, Same H H' → H l = none → H' l = some (.lst (ts.map V.ref)) → PairsAt H' ts counts → Q (.ref l) H'
theorem sc_counts : FnScope ["rows"] [] (defScope (top 91)) := ⟨rfl, rfl, rfl, by decide +kernel, rfl, by decide +kernel, by decide +kernel⟩
theorem d_counts (T : Txt w K mg) {fd : FuncData} (F : FnT K "_law_counts" 91 fd) : Dfn P w K mg base CX0 1 "_law_counts" [] spCounts := by
  refine dfn_mk F (T.g _ (by decide +kernel)) (fun _ _ _ _ _ _ us hl => match us, hl with | [], _ => rfl) (F.ok sc_counts (fun vs H Q E h => by rw [h.1] <;> rfl) fun cdv A outer s H vs Q E hr h => ?_)
  refine ⟨_, PSs.nox (pss_cons (ps_set (i := 0) sc_counts.nd rfl (Or.inl rfl) (pe_lst (pa_cons (pe_tup (pa_cons pe_str (pa_cons pe_int pa_nil))) (pa_cons (pe_tup (pa_cons pe_str (pa_cons pe_int pa_nil))) (pa_cons (pe_tup (pa_cons pe_str (pa_cons pe_int pa_nil))) (pa_cons (pe_tup (pa_cons pe_str (pa_cons pe_int pa_nil))) (pa_cons (pe_tup (pa_cons pe_str (pa_cons pe_int pa_nil))) (pa_cons (pe_tup (pa_cons pe_str (pa_cons pe_int pa_nil))) (pa_cons (pe_tup (pa_cons pe_str (pa_cons pe_int pa_nil))) (pa_cons (pe_tup (pa_cons pe_str (pa_cons pe_int pa_nil))) (pa_cons (pe_tup (pa_cons pe_str (pa_cons pe_int pa_nil))) (pa_cons (pe_tup (pa_cons pe_str (pa_cons pe_int pa_nil))) (pa_cons (pe_tup (pa_cons pe_str (pa_cons pe_int pa_nil))) pa_nil)))))))))))))
    (pss_cons (ps_set (i := 0) sc_counts.nd rfl (Or.inl rfl) (pe_op op_cat (pv 0) (pe_lst (pa_cons (pe_tup (pa_cons pe_str (pa_cons pe_int pa_nil))) (pa_cons (pe_tup (pa_cons pe_str (pa_cons pe_int pa_nil))) (pa_cons (pe_tup (pa_cons pe_str (pa_cons pe_int pa_nil))) (pa_cons (pe_tup (pa_cons pe_str (pa_cons pe_int pa_nil))) (pa_cons (pe_tup (pa_cons pe_str (pa_cons pe_int pa_nil))) (pa_cons (pe_tup (pa_cons pe_str (pa_cons pe_int pa_nil))) (pa_cons (pe_tup (pa_cons pe_str (pa_cons pe_int pa_nil))) (pa_cons (pe_tup (pa_cons pe_str (pa_cons pe_int pa_nil))) (pa_cons (pe_tup (pa_cons pe_str (pa_cons pe_int pa_nil))) (pa_cons (pe_tup (pa_cons pe_str (pa_cons pe_int pa_nil))) (pa_cons (pe_tup (pa_cons pe_str (pa_cons pe_int pa_nil))) pa_nil))))))))))))))
    (pss_one (ps_ret (pv 0))))), ?_⟩
  obtain ⟨rfl, q⟩ := h
  have two : ([V.non, V.non] : List V).length ≤ sizeLine := by show 2 ≤ sizeLine; decide
  have new2 : ∀ {H0 : Hp} {t : Addr}, H0 t = none → ∀ (z : Str) (n : Int), Same H0 (upd H0 t (.tup [.str z, .int n])) ∧ upd H0 t (.tup [.str z, .int n]) t = some (.tup [.str z, .int n]) := fun nt z n => ⟨Same.new nt, upd_same⟩
  refine ⟨two, fun a0 na0 => ?_⟩
  obtain ⟨sa0, ea0⟩ := new2 na0 "alike" 1
  generalize upd H a0 (.tup [.str "alike", .int 1]) = Ha0 at sa0 ea0 ⊢
  refine ⟨two, fun a1 na1 => ?_⟩
  obtain ⟨sa1, ea1⟩ := new2 na1 "apart" 2
  generalize upd Ha0 a1 (.tup [.str "apart", .int 2]) = Ha1 at sa1 ea1 ⊢
  refine ⟨two, fun a2 na2 => ?_⟩
  obtain ⟨sa2, ea2⟩ := new2 na2 "bounded" 4
  generalize upd Ha1 a2 (.tup [.str "bounded", .int 4]) = Ha2 at sa2 ea2 ⊢
  refine ⟨two, fun a3 na3 => ?_⟩
  obtain ⟨sa3, ea3⟩ := new2 na3 "deal" 1
  generalize upd Ha2 a3 (.tup [.str "deal", .int 1]) = Ha3 at sa3 ea3 ⊢
  refine ⟨two, fun a4 na4 => ?_⟩
  obtain ⟨sa4, ea4⟩ := new2 na4 "every" 1
  generalize upd Ha3 a4 (.tup [.str "every", .int 1]) = Ha4 at sa4 ea4 ⊢
  refine ⟨two, fun a5 na5 => ?_⟩
  obtain ⟨sa5, ea5⟩ := new2 na5 "fallen" 2
  generalize upd Ha4 a5 (.tup [.str "fallen", .int 2]) = Ha5 at sa5 ea5 ⊢
  refine ⟨two, fun a6 na6 => ?_⟩
  obtain ⟨sa6, ea6⟩ := new2 na6 "falls" 1
  generalize upd Ha5 a6 (.tup [.str "falls", .int 1]) = Ha6 at sa6 ea6 ⊢
  refine ⟨two, fun a7 na7 => ?_⟩
  obtain ⟨sa7, ea7⟩ := new2 na7 "grows" 4
  generalize upd Ha6 a7 (.tup [.str "grows", .int 4]) = Ha7 at sa7 ea7 ⊢
  refine ⟨two, fun a8 na8 => ?_⟩
  obtain ⟨sa8, ea8⟩ := new2 na8 "lack" 4
  generalize upd Ha7 a8 (.tup [.str "lack", .int 4]) = Ha8 at sa8 ea8 ⊢
  refine ⟨two, fun a9 na9 => ?_⟩
  obtain ⟨sa9, ea9⟩ := new2 na9 "lots" 2
  generalize upd Ha8 a9 (.tup [.str "lots", .int 2]) = Ha9 at sa9 ea9 ⊢
  refine ⟨two, fun a10 na10 => ?_⟩
  obtain ⟨sa10, ea10⟩ := new2 na10 "mean" 7
  generalize upd Ha9 a10 (.tup [.str "mean", .int 7]) = Ha10 at sa10 ea10 ⊢
  refine ⟨(by show 11 ≤ sizeLine; decide), fun a na => ?_⟩
  have s2 : Same Ha10 (upd Ha10 a (.lst [V.ref a0, V.ref a1, V.ref a2, V.ref a3, V.ref a4, V.ref a5, V.ref a6, V.ref a7, V.ref a8, V.ref a9, V.ref a10])) := Same.new na
  have e2 : upd Ha10 a (.lst [V.ref a0, V.ref a1, V.ref a2, V.ref a3, V.ref a4, V.ref a5, V.ref a6, V.ref a7, V.ref a8, V.ref a9, V.ref a10]) a = some (.lst [V.ref a0, V.ref a1, V.ref a2, V.ref a3, V.ref a4, V.ref a5, V.ref a6, V.ref a7, V.ref a8, V.ref a9, V.ref a10]) := upd_same
  generalize upd Ha10 a (.lst [V.ref a0, V.ref a1, V.ref a2, V.ref a3, V.ref a4, V.ref a5, V.ref a6, V.ref a7, V.ref a8, V.ref a9, V.ref a10]) = H2 at s2 e2 ⊢
  refine ⟨_, rfl, ?_⟩
  refine ⟨two, fun b0 nb0 => ?_⟩
  obtain ⟨sb0, eb0⟩ := new2 nb0 "played" 4
  generalize upd H2 b0 (.tup [.str "played", .int 4]) = Hb0 at sb0 eb0 ⊢
  refine ⟨two, fun b1 nb1 => ?_⟩
  obtain ⟨sb1, eb1⟩ := new2 nb1 "repeated" 6
  generalize upd Hb0 b1 (.tup [.str "repeated", .int 6]) = Hb1 at sb1 eb1 ⊢
  refine ⟨two, fun b2 nb2 => ?_⟩
  obtain ⟨sb2, eb2⟩ := new2 nb2 "safe" 1
  generalize upd Hb1 b2 (.tup [.str "safe", .int 1]) = Hb2 at sb2 eb2 ⊢
  refine ⟨two, fun b3 nb3 => ?_⟩
  obtain ⟨sb3, eb3⟩ := new2 nb3 "same" 1
  generalize upd Hb2 b3 (.tup [.str "same", .int 1]) = Hb3 at sb3 eb3 ⊢
  refine ⟨two, fun b4 nb4 => ?_⟩
  obtain ⟨sb4, eb4⟩ := new2 nb4 "series" 2
  generalize upd Hb3 b4 (.tup [.str "series", .int 2]) = Hb4 at sb4 eb4 ⊢
  refine ⟨two, fun b5 nb5 => ?_⟩
  obtain ⟨sb5, eb5⟩ := new2 nb5 "short" 1
  generalize upd Hb4 b5 (.tup [.str "short", .int 1]) = Hb5 at sb5 eb5 ⊢
  refine ⟨two, fun b6 nb6 => ?_⟩
  obtain ⟨sb6, eb6⟩ := new2 nb6 "stands" 1
  generalize upd Hb5 b6 (.tup [.str "stands", .int 1]) = Hb6 at sb6 eb6 ⊢
  refine ⟨two, fun b7 nb7 => ?_⟩
  obtain ⟨sb7, eb7⟩ := new2 nb7 "sure" 1
  generalize upd Hb6 b7 (.tup [.str "sure", .int 1]) = Hb7 at sb7 eb7 ⊢
  refine ⟨two, fun b8 nb8 => ?_⟩
  obtain ⟨sb8, eb8⟩ := new2 nb8 "unlike" 1
  generalize upd Hb7 b8 (.tup [.str "unlike", .int 1]) = Hb8 at sb8 eb8 ⊢
  refine ⟨two, fun b9 nb9 => ?_⟩
  obtain ⟨sb9, eb9⟩ := new2 nb9 "unsure" 1
  generalize upd Hb8 b9 (.tup [.str "unsure", .int 1]) = Hb9 at sb9 eb9 ⊢
  refine ⟨two, fun b10 nb10 => ?_⟩
  obtain ⟨sb10, eb10⟩ := new2 nb10 "worth" 3
  generalize upd Hb9 b10 (.tup [.str "worth", .int 3]) = Hb10 at sb10 eb10 ⊢
  refine ⟨(by show 11 ≤ sizeLine; decide), fun b nb => ?_⟩
  have s4 : Same Hb10 (upd Hb10 b (.lst [V.ref b0, V.ref b1, V.ref b2, V.ref b3, V.ref b4, V.ref b5, V.ref b6, V.ref b7, V.ref b8, V.ref b9, V.ref b10])) := Same.new nb
  have e4 : upd Hb10 b (.lst [V.ref b0, V.ref b1, V.ref b2, V.ref b3, V.ref b4, V.ref b5, V.ref b6, V.ref b7, V.ref b8, V.ref b9, V.ref b10]) b = some (.lst [V.ref b0, V.ref b1, V.ref b2, V.ref b3, V.ref b4, V.ref b5, V.ref b6, V.ref b7, V.ref b8, V.ref b9, V.ref b10]) := upd_same
  generalize upd Hb10 b (.lst [V.ref b0, V.ref b1, V.ref b2, V.ref b3, V.ref b4, V.ref b5, V.ref b6, V.ref b7, V.ref b8, V.ref b9, V.ref b10]) = H4 at s4 e4 ⊢
  have c2 : Same H2 H4 := ((((((((((((show Same H2 Hb0 from sb0).trans sb1).trans sb2).trans sb3).trans sb4).trans sb5).trans sb6).trans sb7).trans sb8).trans sb9).trans sb10).trans s4)
  have c0 : Same H H4 := (((((((((((((show Same H Ha0 from sa0).trans sa1).trans sa2).trans sa3).trans sa4).trans sa5).trans sa6).trans sa7).trans sa8).trans sa9).trans sa10).trans s2).trans c2)
  have ka10 : Same Ha10 H4 := s2.trans c2
  have ka9 : Same Ha9 H4 := sa10.trans ka10
  have ka8 : Same Ha8 H4 := sa9.trans ka9
  have ka7 : Same Ha7 H4 := sa8.trans ka8
  have ka6 : Same Ha6 H4 := sa7.trans ka7
  have ka5 : Same Ha5 H4 := sa6.trans ka6
  have ka4 : Same Ha4 H4 := sa5.trans ka5
  have ka3 : Same Ha3 H4 := sa4.trans ka4
  have ka2 : Same Ha2 H4 := sa3.trans ka3
  have ka1 : Same Ha1 H4 := sa2.trans ka2
  have ka0 : Same Ha0 H4 := sa1.trans ka1
  have kb10 : Same Hb10 H4 := s4
  have kb9 : Same Hb9 H4 := sb10.trans kb10
  have kb8 : Same Hb8 H4 := sb9.trans kb9
  have kb7 : Same Hb7 H4 := sb8.trans kb8
  have kb6 : Same Hb6 H4 := sb7.trans kb7
  have kb5 : Same Hb5 H4 := sb6.trans kb6
  have kb4 : Same Hb4 H4 := sb5.trans kb5
  have kb3 : Same Hb3 H4 := sb4.trans kb4
  have kb2 : Same Hb2 H4 := sb3.trans kb3
  have kb1 : Same Hb1 H4 := sb2.trans kb2
  have kb0 : Same Hb0 H4 := sb1.trans kb1
  refine ⟨a, b, _, _, rfl, rfl, c2 _ _ e2, e4, (by show 22 ≤ sizeLine; decide), fun c nc => ⟨_, rfl, ?_⟩⟩
  have k := Same.new (o := .lst ([V.ref a0, V.ref a1, V.ref a2, V.ref a3, V.ref a4, V.ref a5, V.ref a6, V.ref a7, V.ref a8, V.ref a9, V.ref a10] ++ [V.ref b0, V.ref b1, V.ref b2, V.ref b3, V.ref b4, V.ref b5, V.ref b6, V.ref b7, V.ref b8, V.ref b9, V.ref b10])) nc
  refine q _ c [a0, a1, a2, a3, a4, a5, a6, a7, a8, a9, a10, b0, b1, b2, b3, b4, b5, b6, b7, b8, b9, b10] (c0.trans k) (c0.free nc) upd_same ?_
  exact ⟨k _ _ (ka0 _ _ ea0), k _ _ (ka1 _ _ ea1), k _ _ (ka2 _ _ ea2), k _ _ (ka3 _ _ ea3), k _ _ (ka4 _ _ ea4), k _ _ (ka5 _ _ ea5), k _ _ (ka6 _ _ ea6), k _ _ (ka7 _ _ ea7), k _ _ (ka8 _ _ ea8), k _ _ (ka9 _ _ ea9), k _ _ (ka10 _ _ ea10), k _ _ (kb0 _ _ eb0), k _ _ (kb1 _ _ eb1), k _ _ (kb2 _ _ eb2), k _ _ (kb3 _ _ eb3), k _ _ (kb4 _ _ eb4), k _ _ (kb5 _ _ eb5), k _ _ (kb6 _ _ eb6), k _ _ (kb7 _ _ eb7), k _ _ (kb8 _ _ eb8), k _ _ (kb9 _ _ eb9), k _ _ (kb10 _ _ eb10), trivial⟩
/-! ### _law_pen -/
def spPen (K : PySem.W.Frag) : Sp := fun vs H Q _ => ∃ (a : Addr) (ns : List Int), vs = [.ref a] ∧ SqL K H a (ns.map V.int) ∧ ∀ H' pn cl cells, Same H H' → H pn = none → H cl = none → PenS H' pn cl cells 0 0 → Q (.ref pn) H'
theorem sc_pen : FnScope ["script", "cell"] ["script"] (defScope (top 87)) := ⟨rfl, rfl, rfl, by decide +kernel, rfl, by decide +kernel, by decide +kernel⟩
theorem d_pen (T : Txt w K mg) {fd : FuncData} (F : FnT K "_law_pen" 87 fd) : Dfn P w K mg base CX0 1 "_law_pen" ["script"] (spPen K) := by
  refine dfn_mk F (T.g _ (by decide +kernel)) (fun _ _ _ _ _ _ us hl => match us, hl with | [_], _ => rfl) (F.ok sc_pen (fun vs H Q E h => by obtain ⟨a, ns, rfl, _⟩ := h; rfl) fun cdv A outer s H vs Q E hr h => ?_)
  have mN := T.z "int" (by decide +kernel)
  refine ⟨_, PSs.nox (pss_one (ps_ret (pe_lst (pa_cons (pe_lc (own := [("cell", 1)]) (g := gName 1) (tt := tYes) rfl sc_pen.nd (pi_list (pe_slice sl_list (pv 0) po_none (po_some pe_int))) (blkOk_by (own := [("cell", 1)]) (N := ["script", "cell"]) (sc := defScope (top 87)) (by decide +kernel))
    (fun _ _ _ _ _ => pg_name (i := 1) sc_pen.nd rfl (Or.inl rfl)) (fun _ _ _ _ _ => pts_nil) (fun _ _ _ _ _ => pe_callTy call_int1 rfl mN (by decide +kernel) (pa_cons (pv 1) pa_nil))) (pa_cons pe_int (pa_cons pe_int pa_nil)))))), ?_⟩
  obtain ⟨a, ns, rfl, hS, q⟩ := h
  refine ⟨_, rfl, _, rfl, a, _, rfl, hS, fun p np => ⟨p, rfl, ⟨_, SqL.of upd_same⟩, fun D hD => ?_⟩⟩
  have ecut : cutV (ns.map V.int) none (some 63) = (ns.take 63).map V.int := by
    unfold cutV
    have e1 : HT.sIx (ns.map V.int).length (ns.map V.int).length (some 63) = min 63 (ns.map V.int).length := HT.sIx_nat _ _ 63
    rw [e1, HT.sIx_none, List.drop_zero, Nat.sub_zero, ← List.map_take, List.length_map]
    congr 1
    by_cases h : ns.length ≤ 63
    · rw [Nat.min_eq_right h, List.take_of_length_le (Nat.le_refl _), List.take_of_length_le h]
    · rw [Nat.min_eq_left (by omega)]
  have s1 : Same H (upd H p (.lst (cutV (ns.map V.int) none (some 63)))) := Same.new np
  have e1 : upd H p (.lst (cutV (ns.map V.int) none (some 63))) p = some (.lst ((ns.take 63).map V.int)) := by rw [upd_same, ecut]
  generalize upd H p (.lst (cutV (ns.map V.int) none (some 63))) = H1 at s1 e1 hD
  have hlen : (ns.take 63).length ≤ 63 := by rw [List.length_take]; omega
  refine lc_all (walk_list (xs := (ns.take 63).map V.int)) hD (fun i v _ => ((ns.take 63).map V.int)[i]? = some v) (fun _ _ _ _ _ h => h) (fun _ _ _ _ _ h _ => h) (fun H' s' => SqL.of (s' _ _ e1)) (by rw [List.length_map]; exact Nat.le_trans hlen (by decide)) (fun i x H2 H3 hi s2 y Q2 k => ?_) fun H2 acc ha hr2 hD2 s2 => ?_
  · obtain ⟨rfl, hx⟩ := y
    refine ⟨rfl, _, rfl, ?_⟩
    rw [List.getElem?_map] at hx
    cases en : (ns.take 63)[i]? with
    | none =>
      rw [en] at hx
      cases hx
    | some n =>
      rw [en] at hx
      cases hx
      exact .inl ⟨n, rfl, k _ _ (Same.refl _) (by rw [List.getElem?_map, en]; rfl)⟩
  · have eacc : acc = (ns.take 63).map V.int := List.ext_getElem? fun i => by
      cases e : acc[i]? with
      | none =>
        have z := List.getElem?_eq_none_iff.mp e
        rw [List.getElem?_eq_none_iff.mpr (by omega)]
      | some v => exact (hr2 i v e).symm
    subst eacc
    refine ⟨(by show 3 ≤ sizeLine; decide), fun pn npn => ?_⟩
    have s12 := s1.trans s2
    have nD : H D = none := s1.free hD
    exact q _ pn D (ns.take 63) (s12.trans (Same.new npn)) (s12.free npn) nD ⟨upd_same, Same.new npn _ _ hD2, ne_of_none hD2 npn, hlen, Int.le_refl _⟩
end
end K6
end
section -- KSum
set_option maxHeartbeats 2000000
/-! sum(a list of lists, []). -/
namespace PySem
open Sem (wp)
/-- the lists that are still to be added, as they stand -/
def LsAt (h : Heap) (I S : Addr) : List (Addr × List Value) → Prop
  | [] => True
  | p :: r => (∃ n, IsL h p.1 p.2.toArray n) ∧ p.1 ≠ I ∧ p.1 ≠ S ∧ LsAt h I S r
theorem LsAt.keep {h h' : Heap} {I S : Addr} (k : ∀ b o, b ≠ I → b ≠ S → h.get? b = some o → h'.get? b = some o) : ∀ {l : List (Addr × List Value)}, LsAt h I S l → LsAt h' I S l
  | [], _ => trivial
  | p :: r, ⟨⟨n, e⟩, h1, h2, h3⟩ => ⟨⟨n, k _ _ h1 h2 e⟩, h1, h2, LsAt.keep k h3⟩
section
variable {prog : Program} {w : World} {A : Around} {R : Result → Shared → Prop} {I L S : Addr} {items : Array Value}
theorem sum_loopL (hh : A.handled = none) (hLI : L ≠ I) (hLS : L ≠ S) (hIS : I ≠ S) :
    ∀ (rest : List (Addr × List Value)) (i : Nat) (s : Shared) (total : Addr) (its : List Value) (n c : Nat), items.toList.drop i = rest.map (fun p => Value.ref p.1) → s.heap.IsListIter I L i → s.heap.IsList L items → IsL s.heap S #[.ref total] c → IsL s.heap total its.toArray n → total ≠ I → total ≠ S →
      LsAt s.heap I S rest → its.length + (rest.map fun p => p.2.length).sum ≤ sizeLine →
      (∀ h' tk r n', (∀ b o, b ≠ I → b ≠ S → s.heap.get? b = some o → h'.get? b = some o) → IsL h' r (its ++ (rest.map (·.2)).flatten).toArray n' → (rest = [] → r = total) → (rest ≠ [] → s.heap.objs.size ≤ r) → R (.ok (.ret (.ref r))) { s with heap := h', toks := tk }) →
      codeAny (model prog w) A (.builtin "sum.loop" ⟨[.ref I, .ref S, rawInt 2, rawInt 0], []⟩) R s := by
  intro rest
  induction rest with
  | nil =>
    intro i s total its n c hd hI hL hS hT h1 h2 hls hz hR
    refine codeAny_builtin F.entry_sum_loop ?_
    rw [Around.under_plainId F.plain_sum_loop _]
    show wpAny _ A.in1 (seqItems? (.ref S) >>= _) _ _ s
    refine wpAny_bind (wpAny_seqItems hS rfl ?_)
    show wpAny _ A.in1 (tryCatch (pyNext (.ref I)) _ >>= _) _ _ s
    have hx : items[i]? = none := by
      have e := congrArg List.length hd
      rw [List.length_drop, List.map_nil, List.length_nil, Array.length_toList] at e
      exact Array.getElem?_eq_none (by omega)
    refine wpAny_bind (wpAny_tryCatch (wpAny_pyNext_list_end (A := A.in1) hh hI hL hx fun h' he => ?_))
    refine wpAny_pure ?_
    have k : ∀ b o, b ≠ I → b ≠ S → s.heap.get? b = some o → h'.get? b = some o := fun b o hb _ e => he b o hb e
    refine hR h' s.toks total n k ?_ (fun _ => rfl) (fun z => absurd rfl z)
    rw [List.map_nil, List.flatten_nil, List.append_nil]
    exact he _ _ h1 hT
  | cons p rest ih =>
    intro i s total its n c hd hI hL hS hT h1 h2 hls hz hR
    obtain ⟨⟨np, hp⟩, p1, p2, hls'⟩ := hls
    refine codeAny_builtin F.entry_sum_loop ?_
    rw [Around.under_plainId F.plain_sum_loop _]
    show wpAny _ A.in1 (seqItems? (.ref S) >>= _) _ _ s
    refine wpAny_bind (wpAny_seqItems hS rfl ?_)
    show wpAny _ A.in1 (tryCatch (pyNext (.ref I)) _ >>= _) _ _ s
    have hx : items[i]? = some (.ref p.1) := by
      have e : (items.toList.drop i)[0]? = some (.ref p.1) := by rw [hd]; rfl
      rw [List.getElem?_drop, Nat.add_zero, Array.getElem?_toList] at e
      exact e
    have hd2 : items.toList.drop (i + 1) = rest.map (fun p => Value.ref p.1) := by
      have e : (items.toList.drop i).drop 1 = rest.map (fun p => Value.ref p.1) := by rw [hd]; rfl
      rw [List.drop_drop] at e
      exact e
    refine wpAny_bind (wpAny_tryCatch (wpAny_pyNext_list_item (A := A.in1) hI hL hx fun h1' hI' sb => ?_))
    have hS1 : IsL h1' S #[.ref total] c := (sb.2 S hIS.symm).trans hS
    have hT1 : IsL h1' total its.toArray n := (sb.2 total h1).trans hT
    have hp1 : IsL h1' p.1 p.2.toArray np := (sb.2 p.1 p1).trans hp
    have hsz : its.length + p.2.length ≤ sizeLine := by
      rw [List.map_cons, List.sum_cons] at hz
      omega
    show wpAny _ A.in1 ((holding [Value.ref p.1] (binaryOp .Add (.ref total) (.ref p.1))).attempt >>= _) _ _ _
    refine wpAny_bind (wpAny_attempt (wpAny_holding (P.add_list hT1 hp1 ?_ (by rw [List.size_toArray, List.size_toArray]; exact hsz))))
    show wpAny _ A.in1 (updateSeq S (fun _ => #[.ref h1'.objs.size]) >>= _) _ _ _
    have hS2 : IsL (h1'.push { cls := .type "list", data := .seq (its.toArray ++ p.2.toArray) }) S #[.ref total] c := Heap.get?_push_of_some _ hS1
    refine wpAny_bind (wpAny_updateSeq hS2 rfl ?_)
    have hS3 := Heap.get?_update_self (Obj.mapSeq fun _ => #[Value.ref h1'.objs.size]) hS2 rfl
    refine wpAny_bind (wpAny_letGo ?_)
    refine wpAny_bind (wpAny_updateSeq hS3 rfl (wpAny_pure ⟨plainId_quiet F.plain_sum_loop _, ?_⟩))
    have k1 : ∀ b o, b ≠ S → h1'.get? b = some o → (((h1'.push { cls := .type "list", data := .seq (its.toArray ++ p.2.toArray) }).update S (Obj.mapSeq fun _ => #[Value.ref h1'.objs.size])).update S (Obj.mapSeq fun _ => #[Value.ref h1'.objs.size])).get? b = some o := fun b o hb e =>
      (Heap.get?_update_other _ _ hb.symm).trans ((Heap.get?_update_other _ _ hb.symm).trans (Heap.get?_push_of_some _ e))
    have nS : h1'.objs.size ≠ S := Nat.ne_of_gt (Heap.lt_size hS1)
    have nI : h1'.objs.size ≠ I := by
      obtain ⟨oI, eI, _⟩ := hI'
      exact Nat.ne_of_gt (Heap.lt_size eI)
    have hS4 := Heap.get?_update_self (Obj.mapSeq fun _ => #[Value.ref h1'.objs.size]) hS3 rfl
    have hnew : IsL (((h1'.push { cls := .type "list", data := .seq (its.toArray ++ p.2.toArray) }).update S (Obj.mapSeq fun _ => #[Value.ref h1'.objs.size])).update S (Obj.mapSeq fun _ => #[Value.ref h1'.objs.size])) h1'.objs.size (its ++ p.2).toArray 0 := by
      have e : (its ++ p.2).toArray = its.toArray ++ p.2.toArray := by simp
      rw [e]
      exact (Heap.get?_update_other _ _ nS.symm).trans ((Heap.get?_update_other _ _ nS.symm).trans (Heap.get?_push_size _ rfl))
    have kAll : ∀ b o, b ≠ I → b ≠ S → s.heap.get? b = some o → (((h1'.push { cls := .type "list", data := .seq (its.toArray ++ p.2.toArray) }).update S (Obj.mapSeq fun _ => #[Value.ref h1'.objs.size])).update S (Obj.mapSeq fun _ => #[Value.ref h1'.objs.size])).get? b = some o := fun b o hb hs e => k1 b o hs ((sb.2 b hb).trans e)
    have szs : s.heap.objs.size ≤ h1'.objs.size := Nat.le_of_eq sb.1.symm
    generalize (((h1'.push { cls := .type "list", data := .seq (its.toArray ++ p.2.toArray) }).update S (Obj.mapSeq fun _ => #[Value.ref h1'.objs.size])).update S (Obj.mapSeq fun _ => #[Value.ref h1'.objs.size])) = h3 at k1 hS4 hnew kAll ⊢
    refine ih (i + 1) { s with heap := h3 } h1'.objs.size (its ++ p.2) 0 _ hd2 ?_ ?_ hS4 hnew nI nS (hls'.keep kAll) ?_ fun h' tk r n' kk hr r0 r1 => hR h' tk r n' (fun b o hb hs e => kk b o hb hs (kAll b o hb hs e)) ?_ (fun z => by cases z) fun _ => ?_
    · obtain ⟨oI, eI, q⟩ := hI'
      exact ⟨oI, k1 _ _ hIS eI, q⟩
    · obtain ⟨oL, eL, q⟩ := hL
      exact ⟨oL, kAll _ _ hLI hLS eL, q⟩
    · rw [List.map_cons, List.sum_cons] at hz
      rw [List.length_append]
      omega
    · rw [List.map_cons, List.flatten_cons, ← List.append_assoc]
      exact hr
    · by_cases hr2 : rest = []
      · rw [r0 hr2]
        exact szs
      · have := r1 hr2
        have h5 : h1'.objs.size < h3.objs.size := Heap.lt_size hnew
        exact Nat.le_trans szs (Nat.le_of_lt (Nat.lt_of_lt_of_le h5 this))
end
section
variable {prog : Program} {w : World} {A : Around} {E : Value → Shared → Prop} {s : Shared} {L z : Addr} {items : Array Value}
theorem args_sum2 (a b : Value) : argsOk "sum" ⟨[a, b], []⟩ := by unfold argsOk; kernel_rfl
theorem sub_list_bytes6 : isSubtype (.type "list") (.type "bytes") = pure false := by rw [isSubtype_type]; kernel_rfl
theorem sub_list_bytearray6 : isSubtype (.type "list") (.type "bytearray") = pure false := by rw [isSubtype_type]; kernel_rfl
/-- sum(L, z): L a list of lists, z a list -/
theorem call_sumL {Q : Value → Shared → Prop} {rest : List (Addr × List Value)} {its : List Value} {n : Nat} (hh : A.handled = none) (hL : s.heap.IsList L items) (hd : items.toList = rest.map (fun p => Value.ref p.1)) (hz : IsL s.heap z its.toArray n) (hls : LsAt s.heap s.heap.objs.size (s.heap.objs.size + 1) rest)
    (hsz : its.length + (rest.map fun p => p.2.length).sum ≤ sizeLine)
    (hR : ∀ h' tk r n', (∀ b o, s.heap.get? b = some o → h'.get? b = some o) → IsL h' r (its ++ (rest.map (·.2)).flatten).toArray n' → (rest = [] → r = z) → (rest ≠ [] → s.heap.objs.size ≤ r) → Q (.ref r) { s with heap := h', toks := tk }) :
    wpAny (model prog w) A (call (.builtin "sum") [.ref L, .ref z]) Q E s := by
  refine call_function_tree F.kind_sum F.plain_sum F.entry_sum (args_sum2 _ _) ?_
  unfold Builtin.«sum»
  simp only [List.length_cons, List.length_nil]
  rw [if_neg (by decide)]
  refine wpAny_bind (wpAny_of_eq (show Builtin.Builtins.bindParams "sum" ["start"] 0 ⟨[.ref z], []⟩ = pure [some (.ref z)] from rfl) ?_)
  refine wpAny_bind (wpAny_pyIter_list hL ?_)
  refine wpAny_bind (wpAny_pure ?_)
  have tz : ({ s with heap := s.heap.push { cls := .type "list_iterator", data := .fields #[.ref L, .int 0 0] } } : Shared).TypeIs (.ref z) "list" := ⟨_, Heap.get?_push_of_some _ hz, rfl⟩
  simp only [List.forIn_cons, List.forIn_nil]
  refine wpAny_bind (wpAny_bind (wpAny_bind (wpAny_isInstance (T := "list") (b := false) tz F.sub_list_str ?_)))
  simp only [Bool.false_eq_true, if_false]
  refine wpAny_pure (wpAny_bind (wpAny_bind (wpAny_isInstance (T := "list") (b := false) tz sub_list_bytes6 ?_)))
  simp only [Bool.false_eq_true, if_false]
  refine wpAny_pure (wpAny_bind (wpAny_bind (wpAny_isInstance (T := "list") (b := false) tz sub_list_bytearray6 ?_)))
  simp only [Bool.false_eq_true, if_false]
  refine wpAny_pure (wpAny_pure ?_)
  refine wpAny_bind (wpAny_newObj_type ?_)
  refine wpAny_pure ⟨plainId_quiet F.plain_sum_loop _, ?_⟩
  have sz1 : (s.heap.push ({ cls := .type "list_iterator", data := .fields #[.ref L, .int 0 0] } : Obj)).objs.size = s.heap.objs.size + 1 := Heap.size_push _ _
  rw [sz1]
  obtain ⟨oL, eL, qL⟩ := hL
  have hLlt := Heap.lt_size eL
  have hzlt := Heap.lt_size hz
  have kp : ∀ b o, s.heap.get? b = some o → ((s.heap.push ({ cls := .type "list_iterator", data := .fields #[.ref L, .int 0 0] } : Obj)).push ({ cls := .type "list", data := .seq #[.ref z] } : Obj)).get? b = some o := fun b o e => Heap.get?_push_of_some _ (Heap.get?_push_of_some _ e)
  have hS : ((s.heap.push ({ cls := .type "list_iterator", data := .fields #[.ref L, .int 0 0] } : Obj)).push ({ cls := .type "list", data := .seq #[.ref z] } : Obj)).get? (s.heap.objs.size + 1) = some { cls := .type "list", data := .seq #[.ref z] } := by
    rw [← sz1]
    exact Heap.get?_push_size _ rfl
  refine sum_loopL (A := A) (I := s.heap.objs.size) (L := L) (S := s.heap.objs.size + 1) (items := items) hh (Nat.ne_of_lt hLlt) (Nat.ne_of_lt (Nat.lt_succ_of_lt hLlt)) (Nat.ne_of_lt (Nat.lt_succ_self _)) rest 0 _ z its n 0 ?_ ?_ ⟨oL, kp _ _ eL, qL⟩ hS (kp _ _ hz) (Nat.ne_of_lt hzlt) (Nat.ne_of_lt (Nat.lt_succ_of_lt hzlt)) (hls.keep fun b o _ _ e => kp b o e) hsz fun h' tk r n' kk hr r0 r1 => ?_
  · rw [List.drop_zero]
    exact hd
  · exact ⟨_, Heap.get?_push_of_some _ (Heap.get?_push_size _ rfl), rfl, rfl⟩
  · refine hR h' tk r n' (fun b o e => ?_) hr r0 fun hne => ?_
    · have := Heap.lt_size e
      exact kk b o (Nat.ne_of_lt this) (Nat.ne_of_lt (Nat.lt_succ_of_lt this)) (kp b o e)
    · have h1 := r1 hne
      have h2 : ((s.heap.push ({ cls := .type "list_iterator", data := .fields #[.ref L, .int 0 0] } : Obj)).push ({ cls := .type "list", data := .seq #[.ref z] } : Obj)).objs.size = s.heap.objs.size + 1 + 1 := by rw [Heap.size_push, sz1]
      have h1 : ((s.heap.push ({ cls := .type "list_iterator", data := .fields #[.ref L, .int 0 0] } : Obj)).push ({ cls := .type "list", data := .seq #[.ref z] } : Obj)).objs.size ≤ r := h1
      omega
end
end PySem
end
section -- KSumR
set_option maxHeartbeats 2000000
/-! sum(a list of lists of texts, []) as a rule. -/
namespace K6
open PySem PySem.Spec PyProof.Rows L2
/-- lists of texts at these addresses -/
def RowsAt (H : Hp) : List Addr → List (List Str) → Prop
  | [], [] => True
  | a :: as, r :: rs => H a = some (.lst (r.map V.str)) ∧ RowsAt H as rs
  | _, _ => False
theorem RowsAt.mono {H H' : Hp} (s : ∀ b o, H b = some o → H' b = some o) : ∀ {as : List Addr} {rs : List (List Str)}, RowsAt H as rs → RowsAt H' as rs
  | [], [], _ => trivial
  | a :: as, r :: rs, h => ⟨s _ _ h.1, RowsAt.mono s h.2⟩
  | [], _ :: _, h => h.elim
  | _ :: _, [], h => h.elim
theorem RowsAt.len {H : Hp} : ∀ {as : List Addr} {rs : List (List Str)}, RowsAt H as rs → as.length = rs.length
  | [], [], _ => rfl
  | a :: as, r :: rs, h => congrArg (· + 1) (RowsAt.len h.2)
  | [], _ :: _, h => h.elim
  | _ :: _, [], h => h.elim
theorem RowsAt.snoc {H : Hp} {a : Addr} {r : List Str} : ∀ {as : List Addr} {rs : List (List Str)}, RowsAt H as rs → H a = some (.lst (r.map V.str)) → RowsAt H (as ++ [a]) (rs ++ [r])
  | [], [], _, k => ⟨k, trivial⟩
  | b :: as, q :: rs, h, k => ⟨h.1, RowsAt.snoc h.2 k⟩
  | [], _ :: _, h, _ => h.elim
  | _ :: _, [], h, _ => h.elim
section
variable {X : Cx} {pins : List (Addr × Obj)} {σ : L2.St} {H : Hp} {s : Shared}
theorem rows_heap (I : Inv X pins σ H s) : ∀ {as : List Addr} {rs : List (List Str)}, RowsAt H as rs → ∃ rest : List (Addr × List Value), rest.map (·.1) = as ∧ LsAt s.heap s.heap.objs.size (s.heap.objs.size + 1) rest ∧ Vals (rs.flatten.map V.str) ((rest.map (·.2)).flatten) ∧ (rest.map fun p => p.2.length).sum = rs.flatten.length
  | [], [], _ => ⟨[], rfl, trivial, .nil, rfl⟩
  | a :: as, r :: rs, h => by
    obtain ⟨rest, h1, h2, h3, h4⟩ := rows_heap I h.2
    obtain ⟨z, its, n, rv, hl, e⟩ := I.lstM h.1
    have lt := Heap.lt_size e
    refine ⟨(a, its) :: rest, by rw [List.map_cons, h1], ⟨⟨n, e⟩, Nat.ne_of_lt lt, Nat.ne_of_lt (Nat.lt_succ_of_lt lt), h2⟩, ?_, ?_⟩
    · rw [List.flatten_cons, List.map_append, List.map_cons, List.flatten_cons]
      exact rv.append h3
    · rw [List.map_cons, List.sum_cons, h4, List.flatten_cons, List.length_append]
      have := rv.length
      rw [List.length_map] at this
      show its.length + rs.flatten.length = _
      omega
  | [], _ :: _, h => h.elim
  | _ :: _, [], h => h.elim
def rSumL : List V → Hp → VK → Prop := fun xs H Q => ∃ (L z : Addr) (ls : List Addr) (rows : List (List Str)), xs = [.ref L, .ref z] ∧ H L = some (.lst (ls.map V.ref)) ∧ H z = some (.lst []) ∧ RowsAt H ls rows ∧ rows.flatten.length ≤ sizeLine ∧
  ∀ H' p, (∀ b o, H b = some o → H' b = some o) → H' p = some (.lst (rows.flatten.map V.str)) → Q (.ref p) H'
theorem cr_sumL (hc : X.calm = true) : CallR X (.builtin "sum") rSumL := by
  intro pins s σ H xs us Q I r h
  obtain ⟨L, z, ls, rows, rfl, hL, hz, hr, hn, q⟩ := h
  obtain ⟨u1, u2, rfl, r1, r2⟩ := vals2 r
  cases (show u1 = Value.ref L from r1)
  cases (show u2 = Value.ref z from r2)
  obtain ⟨rest, h1, h2, h3, h4⟩ := rows_heap I hr
  obtain ⟨zL, itsL, nL, rvL, hlL, eL⟩ := I.lstM hL
  obtain ⟨zz, itz, nz, rvz, hlz, ez⟩ := I.lstM hz
  have ei : itsL = rest.map (fun p => Value.ref p.1) := by
    have g : ∀ (as : List Addr) (us : List Value), Vals (as.map V.ref) us → us = as.map Value.ref := by
      intro as
      induction as with
      | nil =>
        intro us h
        cases h
        rfl
      | cons a as ih =>
        intro us h
        cases h with
        | cons x y =>
          rw [ih _ y]
          cases x
          rfl
    rw [g ls itsL rvL, ← h1, List.map_map]
    rfl
  have e0 : itz = [] := by
    cases rvz
    rfl
  subst e0
  have lsz : (itsL.toArray : Array Value).toList = rest.map (fun p => Value.ref p.1) := by rw [← ei]
  refine PySem.call_sumL (its := []) (rest := rest) (I.ok.hd hc) ⟨_, eL, rfl, _, rfl⟩ lsz ez h2 (by rw [h4]; show 0 + _ ≤ _; omega) fun h' tk rr n' kk hrr e1 e2 => ?_
  by_cases hne : rest = []
  · have er := e1 hne
    subst er
    have ef : rows.flatten = [] := by
      rw [hne] at h4
      have h4 : 0 = rows.flatten.length := h4
      exact List.length_eq_zero_iff.mp h4.symm
    exact ⟨.ref rr, H, I.kept (t' := tk) kk, rfl, q H rr (fun _ _ e => e) (by rw [ef]; exact hz)⟩
  · have fr := e2 hne
    have nr : H rr = none := I.hok.fresh fr
    have ob : ObjOk X.prog X.w (upd H rr (.lst (rows.flatten.map V.str))) h' rr (.lst (rows.flatten.map V.str)) := ⟨by rw [List.length_map]; exact hn, _, n', h3, by
      have e : ([] ++ (rest.map (·.2)).flatten : List Value) = (rest.map (·.2)).flatten := List.nil_append _
      rw [e] at hrr
      exact hrr⟩
    exact ⟨.ref rr, _, I.laid (t' := tk) kk fr ob, rfl, q _ rr (fun b o e => by rw [upd_ne (ne_of_none e nr)]; exact e) upd_same⟩
end
end K6
end
section -- KNum
set_option maxHeartbeats 1000000
/-! Numbers as words. -/
namespace K6
open PySem PySem.Spec PyProof.Rows L2
theorem tl_pos (n : Nat) : (iStr (n : Int)).cps.toList = TL.numL n := TL.tl_num n
theorem tl_neg (n : Nat) : (iStr (-((n + 1 : Nat) : Int))).cps.toList = 45 :: TL.numL (n + 1) := by
  show (Str.ofString (toString (Int.negSucc n))).cps.toList = _
  rw [PyProof.Rows.signs_ofString]
  show ("-" ++ Nat.repr (n + 1)).toList.map Char.toNat = _
  rw [String.toList_append, List.map_append, Nat.toList_repr]
  rfl
theorem num_head : ∀ n : Nat, 0 < n → ∃ c r, TL.numL n = c :: r ∧ c ≠ 48 := by
  intro n
  induction n using Nat.strongRecOn with
  | _ n ih =>
    intro h0
    by_cases h : n < 10
    · exact ⟨48 + n, [], TL.numL_lt h, by omega⟩
    · obtain ⟨c, r, e, hc⟩ := ih (n / 10) (by omega) (by omega)
      exact ⟨c, r ++ [48 + n % 10], by rw [TL.numL_step (by omega), e]; rfl, hc⟩
theorem mem_figs {x : Nat} (h : 48 ≤ x ∧ x ≤ 57) : x ∈ ("0123456789" : Str).cps.toList := by
  have e : x = 48 ∨ x = 49 ∨ x = 50 ∨ x = 51 ∨ x = 52 ∨ x = 53 ∨ x = 54 ∨ x = 55 ∨ x = 56 ∨ x = 57 := by omega
  rcases e with rfl | rfl | rfl | rfl | rfl | rfl | rfl | rfl | rfl | rfl <;> decide +kernel
theorem wr_of {l : List Nat} {c : Nat} {r : List Nat} (hf : figs l = c :: r) (hd : NumText.AllDigits (c :: r)) (hl : r.length < 4000) (h0 : l = [48] ∨ c ≠ 48) : isWrL l = true := by
  unfold isWrL
  rw [hf]
  show (decide (r.length < 4000) && (c :: r).all (fun x => decide (x ∈ ("0123456789" : Str).cps.toList)) && (decide (l = [48]) || !decide (c = 48))) = true
  have h2 : (c :: r).all (fun x => decide (x ∈ ("0123456789" : Str).cps.toList)) = true := List.all_eq_true.mpr fun x hx => decide_eq_true (mem_figs (hd x hx))
  have h3 : (decide (l = [48]) || !decide (c = 48)) = true := by
    rcases h0 with h0 | h0
    · rw [decide_eq_true h0, Bool.true_or]
    · rw [decide_eq_false h0, Bool.not_false, Bool.or_true]
  rw [decide_eq_true hl, h2, h3] <;> rfl
theorem figs_dig {l : List Nat} (h : NumText.AllDigits l) : figs l = l := by
  rcases figs_or l with e | e
  · exact e.symm
  · exfalso
    have := h 45 (by rw [e]; exact List.mem_cons_self)
    omega
/-- a number of less than 4000 figures is read as it was written -/
theorem int_rd {i : Int} {k : Nat} (hk0 : 0 < k) (hk : k < 4000) (h : i.natAbs < 10 ^ k) : (Dat.int i).rd ∧ (iStr i).length ≤ k + 1 := by
  have tl_len : ∀ z : Str, z.length = z.cps.toList.length := fun z => by simp [PySem.Str.length]
  show (isWrL (iStr i).cps.toList = true ∧ valW (iStr i) = i) ∧ _
  rcases Int.lt_or_le i 0 with hneg | hpos
  · obtain ⟨n, rfl⟩ : ∃ n : Nat, i = -((n + 1 : Nat) : Int) := ⟨i.natAbs - 1, by omega⟩
    have hn : n + 1 < 10 ^ k := by omega
    have hl := TL.numL_len hk0 hn
    have e := tl_neg n
    obtain ⟨c, r, ec, hc⟩ := num_head (n + 1) (by omega)
    have hd := TL.numL_digits (n + 1)
    have lenz : (iStr (-((n + 1 : Nat) : Int))).length ≤ k + 1 := by
      rw [tl_len, e, List.length_cons]
      omega
    refine ⟨⟨?_, ?_⟩, lenz⟩
    · rw [e]
      refine wr_of (l := 45 :: TL.numL (n + 1)) (c := c) (r := r) (by rw [← ec]; rfl) (by rw [← ec]; exact hd) ?_ (.inr hc)
      rw [ec, List.length_cons] at hl
      omega
    · have e2 := PySem.intText_neg e hd (TL.numL_ne _) (by omega)
      rw [TL.numL_val] at e2
      unfold valW
      rw [e2]
      rfl
  · obtain ⟨n, rfl⟩ : ∃ n : Nat, i = (n : Int) := ⟨i.toNat, by omega⟩
    have hn : n < 10 ^ k := by omega
    have hl := TL.numL_len hk0 hn
    have e := tl_pos n
    have hd := TL.numL_digits n
    have lenz : (iStr (n : Int)).length ≤ k + 1 := by
      rw [tl_len, e]
      omega
    refine ⟨⟨?_, ?_⟩, lenz⟩
    · rw [e]
      by_cases h0 : n = 0
      · subst h0
        decide +kernel
      · obtain ⟨c, r, ec, hc⟩ := num_head n (by omega)
        refine wr_of (c := c) (r := r) (by rw [figs_dig hd, ec]) (by rw [← ec]; exact hd) ?_ (.inr hc)
        rw [ec, List.length_cons] at hl
        omega
    · have e2 := PySem.intText_digits (x := iStr (n : Int)) (by rw [e]; exact hd) (by rw [e]; exact TL.numL_ne n) (by omega)
      rw [e, TL.numL_val] at e2
      unfold valW
      rw [e2]
      rfl
/-- one and so many noughts -/
theorem one_noughts {k : Nat} (h : k ≤ 4200) : PySem.intText? (("1" : Str) ++ repS "0" k) = some ((10 ^ k : Nat) : Int) ∧ (("1" : Str) ++ repS "0" k).length = k + 1 ∧ (("1" : Str) ++ repS "0" k).cps.all (· < 128) = true := by
  have e0 : (repS "0" k).cps.toList = List.replicate k 48 := rep1_tl rfl k
  have e : (("1" : Str) ++ repS "0" k).cps.toList = 49 :: List.replicate k 48 := by
    have : (("1" : Str) ++ repS "0" k).cps.toList = ("1" : Str).cps.toList ++ (repS "0" k).cps.toList := TL.tl_append _ _
    rw [this, e0]
    rfl
  have hl : (("1" : Str) ++ repS "0" k).length = k + 1 := by
    have : (("1" : Str) ++ repS "0" k).length = (("1" : Str) ++ repS "0" k).cps.toList.length := by simp [PySem.Str.length]
    rw [this, e, List.length_cons, List.length_replicate]
  have hd : NumText.AllDigits (49 :: List.replicate k 48) := fun c hc => by
    rcases List.mem_cons.mp hc with rfl | hc
    · decide
    · rw [List.eq_of_mem_replicate hc]
      decide
  refine ⟨?_, hl, ?_⟩
  · rw [PySem.intText_digits (by rw [e]; exact hd) (by rw [e]; exact List.cons_ne_nil _ _) (by rw [hl]; omega), e, val_cons, val_zeros, List.length_replicate]
    congr 2
    omega
  · rw [← Array.all_toList, e]
    refine List.all_eq_true.mpr fun x hx => ?_
    have := hd x hx
    exact decide_eq_true (by omega)
/-! ### data that can be read back is well -/
mutual
theorem rd_pl : ∀ d : Dat, d.rd → d.pl = true ∧ d.ok = true
  | .non, _ => ⟨rfl, rfl⟩
  | .bl _, h => h.elim
  | .int i, _ => ⟨rfl, rfl⟩
  | .str z, _ => ⟨rfl, rfl⟩
  | .emp, h => h.elim
  | .lst _, h => h.elim
  | .tup ds, h => rdS_pl ds h
  | .pap c z ds, h => by
    obtain ⟨h1, h2, h3⟩ := h
    obtain ⟨a, b⟩ := rdS_pl ds h3
    refine ⟨a, ?_⟩
    show (decide (c < 24) && (nlS ds && okS ds)) = true
    rw [h2, decide_eq_true (wnum_lt h1).1, plS_nl ds a, b] <;> rfl
theorem rdS_pl : ∀ ds : List Dat, rdS ds → plS ds = true ∧ okS ds = true
  | [], _ => ⟨rfl, rfl⟩
  | d :: r, h => by
    obtain ⟨a, b⟩ := rd_pl d h.1
    obtain ⟨c, e⟩ := rdS_pl r h.2
    constructor
    · show (d.pl && plS r) = true
      rw [a, c] <;> rfl
    · show (d.ok && okS r) = true
      rw [b, e] <;> rfl
end
end K6
end
section -- KG3
set_option maxHeartbeats 1000000
/-! _law_value: words of data. -/
namespace K6
open PySem PySem.Spec PyProof.Rows L2 NdefX
theorem Ws_flat (ds : List Dat) : (ds.map Dat.W).flatten = Ws ds := by
  induction ds with
  | nil => rfl
  | cons d r ih =>
    rw [List.map_cons, List.flatten_cons, ih]
    rfl
theorem rdS_app {a b : List Dat} : rdS a → rdS b → rdS (a ++ b) := by
  induction a with
  | nil => exact fun _ h => h
  | cons d r ih => exact fun h k => ⟨h.1, ih h.2 k⟩
theorem pen_ne {H : Hp} {pn cl a : Addr} {cells : List Int} {t r : Int} {row : List Str} (S : PenS H pn cl cells t r) (h : H a = some (.lst (row.map V.str))) : a ≠ pn := by
  refine ne_of h S.hp fun z => ?_
  injection z with z
  cases row with
  | nil => cases z
  | cons x y =>
    rw [List.map_cons] at z
    injection z with z1 z2
    cases z1
theorem RowsAt.pen {H H' : Hp} {pn cl : Addr} {cells : List Int} {t r : Int} (S : PenS H pn cl cells t r) (sb : SameBut pn H H') : ∀ {as : List Addr} {rs : List (List Str)}, RowsAt H as rs → RowsAt H' as rs
  | [], [], _ => trivial
  | a :: as, q :: rs, h => ⟨sb _ _ (pen_ne S h.1) h.1, RowsAt.pen S sb h.2⟩
  | [], _ :: _, h => h.elim
  | _ :: _, [], h => h.elim
theorem RowsAt.updD {H : Hp} {D : Addr} {o : HO} : ∀ {as : List Addr} {rs : List (List Str)}, D ∉ as → RowsAt H as rs → RowsAt (upd H D o) as rs
  | [], [], _, _ => trivial
  | a :: as, q :: rs, n, h => ⟨by
      rw [upd_ne (fun e => n (by rw [e]; exact List.mem_cons_self))]
      exact h.1, RowsAt.updD (fun z => n (List.mem_cons_of_mem _ z)) h.2⟩
  | [], _ :: _, _, h => h.elim
  | _ :: _, [], _, h => h.elim
def NV : Nat → Int
  | 0 => 5
  | n + 1 => 3 + 7 * NV n
def SZ : Nat → Nat
  | 0 => 320
  | n + 1 => 20 + 7 * SZ n
theorem NV_pos : ∀ n, 5 ≤ NV n
  | 0 => Int.le_refl _
  | n + 1 => by
    have := NV_pos n
    unfold NV
    omega
theorem SZ_pos : ∀ n, 320 ≤ SZ n
  | 0 => Nat.le_refl _
  | n + 1 => by
    have := SZ_pos n
    unfold SZ
    omega
mutual
theorem W_le : ∀ d : Dat, d.W.length ≤ d.sz
  | .non => by show 1 ≤ 2; omega
  | .bl _ => by show 0 ≤ 2; omega
  | .int i => by show 1 ≤ (iStr i).length + 1; omega
  | .str z => by show 1 ≤ z.length + 1; omega
  | .emp => by show 0 ≤ 2; omega
  | .lst ds => Nat.zero_le _
  | .tup ds => by
    have := Ws_le ds
    show (Ws ds ++ [(")" : Str)]).length + 1 ≤ 4 + szS ds
    rw [List.length_append]
    show (Ws ds).length + 1 + 1 ≤ 4 + szS ds
    omega
  | .pap c z ds => by
    have := Ws_le ds
    show (Ws ds ++ [("]" : Str)]).length + 1 + 1 ≤ 5 + z.length + szS ds
    rw [List.length_append]
    show (Ws ds).length + 1 + 1 + 1 ≤ 5 + z.length + szS ds
    omega
theorem Ws_le : ∀ ds : List Dat, (Ws ds).length ≤ szS ds
  | [] => Nat.le_refl _
  | d :: r => by
    have h1 := W_le d
    have h2 := Ws_le r
    show (d.W ++ Ws r).length ≤ d.sz + szS r
    rw [List.length_append]
    omega
end
section
variable {P : Program} {w : World} {K : PySem.W.Frag} {mg : Str → Option Value} {base : Heap}
structure VD (n : Nat) (d : Dat) : Prop where
  rd : d.rd
  dp : d.dep ≤ n
  sz : d.sz ≤ SZ n
def spVal (n : Nat) : Sp := fun vs H Q _ => ∃ (pn cl : Addr) (cells : List Int) (t r : Int), vs = [.ref pn, .int (n : Int)] ∧ PenS H pn cl cells t r ∧ t + NV n ≤ tMax ∧ 7 * SZ n + 100 ≤ sizeLine ∧
  ∀ (H' : Hp) (l : Addr) (d : Dat) (t' r' : Int), SameBut pn H H' → H l = none → H' l = some (.lst (d.W.map V.str)) → PenS H' pn cl cells t' r' → t ≤ t' → t' ≤ t + NV n → VD n d → Q (.ref l) H'
theorem val_many {m c : Nat} {H1 : Hp} {D pn cl : Addr} {cells : List Int} {t1 r1 v : Int} {a b : Option V} {Qd : Hp → Prop} (nD : H1 D = none) (S1 : PenS H1 pn cl cells t1 r1) (hc : c ≤ 7) (ht : t1 + c * NV m ≤ tMax) (hz : 7 * SZ m + 100 ≤ sizeLine)
    (q : ∀ (H' : Hp) (ls : List Addr) (ds : List Dat) (t' r' : Int), SameBut pn H1 H' → H' D = some (.lst (ls.map V.ref)) → RowsAt H' ls (ds.map Dat.W) → PenS H' pn cl cells t' r' → t1 ≤ t' → t' ≤ t1 + c * NV m → ds.length = c → rdS ds → depS ds ≤ m → szS ds ≤ c * SZ m → Qd H') :
    ∃ W : Nat → Nat → Hp → Prop, (∃ m, W 0 m (upd H1 D (.lst []))) ∧ ∀ i k H, W i k H →
      ((Itr 0 c).stop i H ∧ Qd H) ∨ ((Itr 0 c).go i H ∧ ∃ Nx : Hp → Prop, (∀ H', Nx H' → ∃ m', m' < k ∧ W (i + 1) m' H') ∧ ∀ x H', (Itr 0 c).yld i H x H' → gName 5 x (wipe [some (.ref pn), some (.int ((m + 1 : Nat) : Int)), some (.int v), a, b, none] [5]) H' fun σ2 H2 => wipe σ2 [5] = wipe [some (.ref pn), some (.int ((m + 1 : Nat) : Int)), some (.int v), a, b, none] [5] ∧ tYes σ2 H2 fun bb H3 =>
        if bb = true then (tCall (lvl spVal (m + 1)) [] E0 (tCons (tVar 0) (tCons (tOp (rI0 fun i j => V.int (i - j)) (tVar 1) (tC (.int 1))) tNil))) σ2 H3 fun y H4 => ∃ acc, H4 D = some (.lst acc) ∧ acc.length < sizeLine ∧ Nx (upd H4 D (.lst (acc ++ [y]))) else Nx H3) := by
  have nv := NV_pos m
  have pD : pn ≠ D := ne_of_none S1.hp nD
  have cD : cl ≠ D := ne_of_none S1.hc nD
  refine lc_range (lo := 0) (n := c) (fun i H' => ∃ (ds : List Dat) (ls : List Addr) (t' r' : Int), ds.length = i ∧ H' D = some (.lst (ls.map V.ref)) ∧ D ∉ ls ∧ RowsAt H' ls (ds.map Dat.W) ∧ PenS H' pn cl cells t' r' ∧ t1 ≤ t' ∧ t' ≤ t1 + i * NV m ∧ rdS ds ∧ depS ds ≤ m ∧ szS ds ≤ i * SZ m ∧ SameBut pn H1 H')
    ⟨[], [], t1, r1, rfl, upd_same, List.not_mem_nil, trivial, ⟨by rw [upd_ne pD]; exact S1.hp, by rw [upd_ne cD]; exact S1.hc, S1.ne, S1.n, S1.t0⟩, Int.le_refl _, by simp, trivial, Nat.zero_le _, Nat.zero_le _, fun x o hb e2 => by rw [upd_ne (ne_of_none e2 nD)]; exact e2⟩ (fun i H' hi h => ?_) fun H' h => ?_
  · obtain ⟨ds, ls, t', r', hl, hD, nls, rw_, S2, l1, l2, h1, h2, h3, sb⟩ := h
    have e1 : ((i + 1 : Nat) : Int) * NV m = (i : Int) * NV m + NV m := by
      rw [Int.natCast_add, Int.add_mul]
      simp
    have e2 : ((i + 1 : Nat) : Int) * NV m ≤ (c : Int) * NV m := Int.mul_le_mul_of_nonneg_right (by omega) (by omega)
    have e3 : (i + 1) * SZ m = i * SZ m + SZ m := Nat.succ_mul _ _
    refine ⟨rfl, ?_⟩
    refine ⟨_, rfl, _, rfl, _, _, rfl, rfl, pn, cl, cells, t', r', ?_, S2, by omega, hz, fun H2 l d t2 r2 sb2 nl el S3 l3 l4 vd => ?_⟩
    · show [V.ref pn, V.int (((m + 1 : Nat) : Int) - 1)] = [V.ref pn, V.int (m : Int)]
      rw [show ((m + 1 : Nat) : Int) - 1 = (m : Int) by omega]
    · have hD2 : H2 D = some (.lst (ls.map V.ref)) := sb2 _ _ pD.symm hD
      have Dl : l ≠ D := fun e => by
        rw [e, hD] at nl
        cases nl
      have ll : ls.length = i := by rw [rw_.len, List.length_map, hl]
      refine ⟨_, hD2, ?_, ds ++ [d], ls ++ [l], t2, r2, by rw [List.length_append, hl]; rfl, ?_, ?_, ?_, ?_, by omega, by omega, rdS_app h1 ⟨vd.rd, trivial⟩, ?_, ?_, fun x o hb e4 => ?_⟩
      · rw [List.length_map, ll]
        show i < sizeLine
        omega
      · rw [upd_same, List.map_append]
        rfl
      · intro z
        rcases List.mem_append.mp z with z | z
        · exact nls z
        · exact Dl (List.mem_singleton.mp z).symm
      · rw [List.map_append]
        refine RowsAt.snoc (RowsAt.updD nls (RowsAt.pen S2 sb2 rw_)) ?_
        rw [upd_ne Dl]
        exact el
      · exact ⟨by rw [upd_ne pD]; exact S3.hp, by rw [upd_ne cD]; exact S3.hc, S3.ne, S3.n, S3.t0⟩
      · rw [depS_app]
        refine Nat.max_le.mpr ⟨h2, ?_⟩
        show max d.dep 0 ≤ m
        rw [Nat.max_zero]
        exact vd.dp
      · rw [szS_app]
        show szS ds + (d.sz + 0) ≤ _
        have := vd.sz
        omega
      · rw [upd_ne (ne_of_none e4 nD)]
        exact sb2 x o hb (sb x o hb e4)
  · obtain ⟨ds, ls, t', r', hl, hD, nls, rw_, S2, l1, l2, h1, h2, h3, sb⟩ := h
    exact q H' ls ds t' r' sb hD rw_ S2 l1 l2 hl h1 h2 h3
theorem val_fin {H' : Hp} {pa D : Addr} {ls : List Addr} {ds : List Dat} {pre : List Str} {post : Str} {Q : VK} (hp : H' pa = some (.lst (pre.map V.str))) (hD : H' D = some (.lst (ls.map V.ref))) (hr : RowsAt H' ls (ds.map Dat.W)) (hn : pre.length + (Ws ds).length + 1 ≤ sizeLine)
    (q : ∀ H4 p, Same H' H4 → H' p = none → H4 p = some (.lst ((pre ++ (Ws ds ++ [post])).map V.str)) → Q (.ref p) H4) :
    (([] : List V).length ≤ sizeLine ∧ ∀ z, H' z = none → rSumL [.ref D, .ref z] (upd H' z (.lst [])) fun y H2 => rCat (.ref pa) y H2 fun x H3 => ([V.str post] : List V).length ≤ sizeLine ∧ ∀ b, H3 b = none → rCat x (.ref b) (upd H3 b (.lst [V.str post])) Q) := by
  refine ⟨Nat.zero_le _, fun z nz => ?_⟩
  have sz : Same H' (upd H' z (.lst [])) := Same.new nz
  refine ⟨D, z, ls, _, rfl, sz _ _ hD, upd_same, RowsAt.mono sz hr, ?_, fun H2 p s2 e2 => ?_⟩
  · rw [Ws_flat]
    omega
  rw [Ws_flat] at e2
  refine ⟨pa, p, _, _, rfl, rfl, s2 _ _ (sz _ _ hp), e2, ?_, fun p2 np2 => ⟨(by show 1 ≤ sizeLine; decide), fun b nb => ?_⟩⟩
  · rw [List.length_map, List.length_map]
    omega
  have s3 : Same H' H2 := sz.trans s2
  have s4 : Same H2 (upd H2 p2 (.lst (pre.map V.str ++ (Ws ds).map V.str))) := Same.new np2
  have e4 : upd H2 p2 (.lst (pre.map V.str ++ (Ws ds).map V.str)) p2 = _ := upd_same
  generalize upd H2 p2 (.lst (pre.map V.str ++ (Ws ds).map V.str)) = H5 at *
  have s5 : Same H5 (upd H5 b (.lst [V.str post])) := Same.new nb
  have e5 : upd H5 b (.lst [V.str post]) b = _ := upd_same
  generalize upd H5 b (.lst [V.str post]) = H6 at *
  refine ⟨p2, b, _, _, rfl, rfl, s5 _ _ e4, e5, ?_, fun p4 np4 => ?_⟩
  · rw [List.length_append, List.length_map, List.length_map]
    show pre.length + (Ws ds).length + 1 ≤ sizeLine
    omega
  have all : Same H' H6 := (s3.trans s4).trans s5
  refine q _ p4 (all.trans (Same.new np4)) (all.free np4) ?_
  rw [upd_same, List.map_append, List.map_append, List.append_assoc]
  rfl
theorem sc_val : FnScope ["pen", "deep", "way", "word", "many", "turn"] ["pen", "deep"] (defScope (top 92)) := ⟨rfl, rfl, rfl, by decide +kernel, rfl, by decide +kernel, by decide +kernel⟩
theorem d_val (T : Txt w K mg) {fd0 fd1 fd2 fd : FuncData} (F0 : FnT K "_law_draw" 88 fd0) (F1 : FnT K "_law_pick" 89 fd1) (F2 : FnT K "_law_counts" 91 fd2) (F : FnT K "_law_value" 92 fd) : ∀ n, Dfn P w K mg base CX0 (n + 2) "_law_value" ["pen", "deep"] (lvl spVal n) := by
  intro n
  induction n with
  | zero => exact dfn_no F (T.g _ (by decide +kernel)) (fun _ _ _ _ _ _ us hl => match us, hl with | [_, _], _ => rfl)
  | succ n D =>
    have DD := (d_draw (P := P) (base := base) T F0).mono (k' := n + 2) (by omega)
    have DP := (d_pick (P := P) (base := base) T F0 F1).mono (k' := n + 2) (by omega)
    have DC := (d_counts (P := P) (base := base) T F2).mono (k' := n + 2) (by omega)
    refine dfn_mk F (T.g _ (by decide +kernel)) (fun _ _ _ _ _ _ us hl => match us, hl with | [_, _], _ => rfl) (F.ok sc_val (fun vs H Q E h => by obtain ⟨pn, cl, cells, t, r, rfl, _⟩ := h; rfl) fun cdv A outer s H vs Q E hr h => ?_)
    have mN := T.z "int" (by decide +kernel)
    have mS := T.z "str" (by decide +kernel)
    have mM := T.z "sum" (by decide +kernel)
    have mR := T.z "range" (by decide +kernel)
    have ND := sc_val.nd
    refine ⟨_, PSs.nox (pss_cons (ps_set (i := 2) ND rfl (Or.inl rfl) (pe_ifExp (pt_cmpR op_gt (pv 1) pe_int (nomark _)) (pe_d DD hr pass0 (pa_cons (pv 0) (pa_cons pe_int pa_nil))) (pe_d DD hr pass0 (pa_cons (pv 0) (pa_cons pe_int pa_nil)))))
      (pss_cons (ps_if (pt_cmpR op_eq (pv 2) pe_int (nomark _)) (pss_one (ps_ret (pe_lst (pa_cons pe_str pa_nil)))) pss_nil)
      (pss_cons (ps_if (pt_cmpR op_eq (pv 2) pe_int (nomark _)) (pss_one (ps_ret (pe_lst (pa_cons (pe_d DP hr pass0 (pa_cons (pv 0) (pa_cons (pe_lst (pa_cons pe_str (pa_cons pe_str (pa_cons pe_str (pa_cons pe_str pa_nil))))) pa_nil))) pa_nil)))) pss_nil)
      (pss_cons (ps_if (pt_cmpR op_lt (pv 2) pe_int (nomark _)) (pss_one (ps_ret (pe_lst (pa_cons (pe_callTy (call_str_intL rfl T.dg) rfl mS (by decide +kernel) (pa_cons (pe_d DP hr pass0 (pa_cons (pv 0) (pa_cons (pe_lst
          (pa_cons pe_int (pa_cons pe_int (pa_cons (pe_un un_neg pe_int) (pa_cons (pe_d DD hr pass0 (pa_cons (pv 0) (pa_cons pe_int pa_nil))) (pa_cons (pe_un un_neg (pe_op op_pow pe_int pe_int)) (pa_cons (pe_callTy (call_int_strL T.dg) rfl mN (by decide +kernel) (pa_cons (pe_op op_add_str pe_str (pe_op op_mul_str pe_str (pe_d DD hr pass0 (pa_cons (pv 0) (pa_cons pe_int pa_nil))))) pa_nil)) pa_nil))))))) pa_nil))) pa_nil)) pa_nil)))) pss_nil)
      (pss_cons (ps_if (pt_cmpR op_eq (pv 2) pe_int (nomark _))
        (pss_cons (ps_asg (pe_d DP hr pass0 (pa_cons (pv 0) (pa_cons (pe_d0 DC hr pass0) pa_nil))) (pg_tup rfl (pgs_cons (pg_name (i := 3) ND rfl (Or.inl rfl)) (pgs_cons (pg_name (i := 4) ND rfl (Or.inl rfl)) pgs_nil))))
        (pss_one (ps_ret (pe_op op_cat (pe_op op_cat (pe_lst (pa_cons pe_str (pa_cons (pv 3) pa_nil))) (pe_callB (cr_sumL rfl) rfl mM (by decide +kernel) (pa_cons (pe_lc (own := [("turn", 5)]) (g := gName 5) (tt := tYes) rfl ND (pi_range1 rfl mR (pa_cons (pv 4) pa_nil)) (blkOk_by (own := [("turn", 5)]) (N := ["pen", "deep", "way", "word", "many", "turn"]) (sc := defScope (top 92)) (by decide +kernel))
          (fun _ _ _ _ _ => pg_name (i := 5) ND rfl (Or.inl rfl)) (fun _ _ _ _ _ => pts_nil) (fun _ _ _ _ _ => pe_d D hr pass0 (pa_cons (pv 0) (pa_cons (pe_op op_sub (pv 1) pe_int) pa_nil)))) (pa_cons (pe_lst pa_nil) pa_nil)))) (pe_lst (pa_cons pe_str pa_nil)))))) pss_nil)
      (pss_one (ps_ret (pe_op op_cat (pe_op op_cat (pe_lst (pa_cons pe_str pa_nil)) (pe_callB (cr_sumL rfl) rfl mM (by decide +kernel) (pa_cons (pe_lc (own := [("turn", 5)]) (g := gName 5) (tt := tYes) rfl ND (pi_range1 rfl mR (pa_cons (pe_d DD hr pass0 (pa_cons (pv 0) (pa_cons pe_int pa_nil))) pa_nil)) (blkOk_by (own := [("turn", 5)]) (N := ["pen", "deep", "way", "word", "many", "turn"]) (sc := defScope (top 92)) (by decide +kernel))
          (fun _ _ _ _ _ => pg_name (i := 5) ND rfl (Or.inl rfl)) (fun _ _ _ _ _ => pts_nil) (fun _ _ _ _ _ => pe_d D hr pass0 (pa_cons (pv 0) (pa_cons (pe_op op_sub (pv 1) pe_int) pa_nil)))) (pa_cons (pe_lst pa_nil) pa_nil)))) (pe_lst (pa_cons pe_str pa_nil)))))))))), ?_⟩
    obtain ⟨pn, cl, cells, t, r, rfl, S, ht, hsz, q⟩ := h
    have nv := NV_pos n
    have szp := SZ_pos n
    have way_ : ∀ (Q1 : VK), (∀ (H1 : Hp) (v t1 r1 : Int), SameBut pn H H1 → PenS H1 pn cl cells t1 r1 → t ≤ t1 → t1 ≤ t + 1 → 0 ≤ v → v < 7 → (n = 0 → v < 4) → Q1 (.int v) H1) →
        tIf (tTest (tOp (rI0 fun i j => .bl (decide (j < i))) (tVar 1) (tC (.int 0)))) (tCall spDraw [] E0 (tCons (tVar 0) (tCons (tC (.int 7)) tNil))) (tCall spDraw [] E0 (tCons (tVar 0) (tCons (tC (.int 4)) tNil))) [some (.ref pn), some (.int (n : Int)), none, none, none, none] H Q1 := by
      intro Q1 k
      refine ⟨_, rfl, _, _, rfl, rfl, _, rfl, ?_⟩
      by_cases h0 : (0 : Int) < (n : Int)
      · rw [decide_eq_true h0]
        exact iteT ⟨_, rfl, pn, cl, cells, t, r, 7, rfl, S, by omega, by decide, by decide, fun H1 v t1 r1 sb S1 l1 l2 v0 v1 => k H1 v t1 r1 sb S1 l1 l2 v0 v1 (fun e => by omega)⟩
      · rw [decide_eq_false h0]
        exact iteF ⟨_, rfl, pn, cl, cells, t, r, 4, rfl, S, by omega, by decide, by decide, fun H1 v t1 r1 sb S1 l1 l2 v0 v1 => k H1 v t1 r1 sb S1 l1 l2 v0 (by omega) (fun _ => v1)⟩
    refine way_ _ fun H1 v t1 r1 sb1 S1 l1 l2 v0 v7 v4 => ?_
    have fresh1 : ∀ {H' : Hp} {l : Addr} {t' r' : Int}, SameBut pn H H' → PenS H' pn cl cells t' r' → H' l = none → H l = none := fun {H' l t' r'} sb S' e => by
      cases z : H l with
      | none => rfl
      | some o =>
        exfalso
        by_cases hl : l = pn
        · subst hl
          have := S'.hp
          rw [e] at this
          cases this
        · have := sb l o hl z
          rw [e] at this
          cases this
    have one_ : ∀ {H' : Hp} {t' r' : Int} {x : V} {z : Str} {d : Dat}, SameBut pn H H' → PenS H' pn cl cells t' r' → t ≤ t' → t' ≤ t + NV n → d.W = [z] → x = .str z → VD n d → ([x] : List V).length ≤ sizeLine ∧ ∀ p, H' p = none → Q (.ref p) (upd H' p (.lst [x])) := fun {H' t' r' x z d} sb S' a1 a2 e ex vd => by
      subst ex
      refine ⟨by show 1 ≤ sizeLine; decide, fun p np => q _ p d t' r' (sb.trans (Same.but (Same.new np))) (fresh1 sb S' np) ?_ (S'.mono (Same.new np)) a1 a2 vd⟩
      rw [e]
      exact upd_same
    refine ⟨_, rfl, rfl, _, rfl, ?_⟩
    by_cases w0 : V.int v = V.int 0
    · rw [decide_eq_true w0]
      refine iteT ?_
      exact one_ (d := .non) sb1 S1 l1 (by omega) rfl rfl ⟨trivial, Nat.zero_le _, by show 2 ≤ SZ n; omega⟩
    rw [decide_eq_false w0]
    refine iteF ⟨_, rfl, rfl, _, rfl, ?_⟩
    have nve : NV (n + 1) = 3 + 7 * NV n := rfl
    by_cases w1 : V.int v = V.int 1
    · rw [decide_eq_true w1]
      refine iteT ⟨_, rfl, (by show 4 ≤ sizeLine; decide), fun p np => ?_⟩
      have sa := Same.new (o := .lst [.str "rail", .str "a", .str "zzzzzzzz", .str "x1"]) np
      have S2 := S1.mono sa
      refine ⟨pn, cl, p, cells, t1, r1, _, rfl, S2, by omega, upd_same, (ne_of_none S1.hp np).symm, by decide, by decide, fun H2 i x t2 r2 sb2 S3 l3 l4 ei => ?_⟩
      obtain ⟨z, rfl, hz⟩ : ∃ z : Str, x = .str z ∧ isNm z = true := by
        rcases i with _ | _ | _ | _ | i
        · exact ⟨_, (Option.some.inj ei).symm, by decide +kernel⟩
        · exact ⟨_, (Option.some.inj ei).symm, by decide +kernel⟩
        · exact ⟨_, (Option.some.inj ei).symm, by decide +kernel⟩
        · exact ⟨_, (Option.some.inj ei).symm, by decide +kernel⟩
        · cases ei
      exact one_ (d := .str z) ((sb1.trans (Same.but sa)).trans sb2) S3 (by omega) (by omega) rfl rfl ⟨hz, Nat.zero_le _, by
        show z.length + 1 ≤ SZ n
        have : z.length ≤ 8 := by
          rcases i with _ | _ | _ | _ | i
          · injection Option.some.inj ei with e
            subst e
            decide +kernel
          · injection Option.some.inj ei with e
            subst e
            decide +kernel
          · injection Option.some.inj ei with e
            subst e
            decide +kernel
          · injection Option.some.inj ei with e
            subst e
            decide +kernel
          · cases ei
        omega⟩
    rw [decide_eq_false w1]
    refine iteF ⟨_, rfl, _, _, rfl, rfl, _, rfl, ?_⟩
    by_cases w3 : v < 4
    · rw [decide_eq_true w3]
      refine iteT ⟨_, rfl, _, rfl, _, rfl, pn, cl, cells, t1, r1, 999, rfl, S1, by omega, by decide, by decide, fun H2 x2 t2 r2 sb2 S2 l3 l4 x0 x1 => ?_⟩
      refine ⟨_, _, rfl, rfl, ⟨by decide, by decide +kernel⟩, _, rfl, _, rfl, pn, cl, cells, t2, r2, 300, rfl, S2, by omega, by decide, by decide, fun H3 x3 t3 r3 sb3 S3 l5 l6 y0 y1 => ?_⟩
      obtain ⟨k, rfl⟩ : ∃ k : Nat, x3 = k := ⟨x3.toNat, by omega⟩
      have hk : k < 300 := by omega
      obtain ⟨o1, o2, o3⟩ := one_noughts (k := k) (by omega)
      have lr : (repS "0" k).length = k := by
        have : (repS "0" k).length = (repS "0" k).cps.toList.length := by simp [PySem.Str.length]
        rw [this, rep1_tl rfl k, List.length_replicate]
      refine ⟨_, _, rfl, rfl, by omega, by decide, ?_, _, _, rfl, rfl, ?_, _, _, rfl, o1, ?_, o3, ?_⟩
      · show 1 * k ≤ sizeLine
        omega
      · show 1 + (repS "0" k).length ≤ sizeLine
        omega
      · show (("1" : Str) ++ repS "0" k).length ≤ sizeLine
        omega
      refine ⟨(by show 6 ≤ sizeLine; omega), fun p np => ?_⟩
      have p20 : (10 : Nat) ^ 20 < 10 ^ 300 := Nat.pow_lt_pow_right (by decide) (by decide)
      have pk : (10 : Nat) ^ k < 10 ^ 300 := Nat.pow_lt_pow_right (by decide) hk
      have p43 : (10 : Nat) ^ 300 < 10 ^ 4300 := Nat.pow_lt_pow_right (by decide) (by decide)
      have p3 : 1000 < (10 : Nat) ^ 300 := Nat.lt_trans (show 1000 < 10 ^ 20 by decide) p20
      have e20 : (-((10 : Int) ^ (20 : Int).toNat)).natAbs = 10 ^ 20 := by decide +kernel
      generalize hb : (10 : Nat) ^ 300 = B at *
      generalize hq : ((10 ^ k : Nat) : Int) = q10 at *
      have hq2 : q10.natAbs < B := by
        rw [← hq]
        exact pk
      have sa := Same.new (o := .lst [.int 0, .int 1, .int (-1), .int x2, .int (-((10 : Int) ^ (20 : Int).toNat)), .int q10]) np
      have hl : upd H3 p (.lst [.int 0, .int 1, .int (-1), .int x2, .int (-((10 : Int) ^ (20 : Int).toNat)), .int q10]) p = _ := upd_same
      have S4 := S3.mono sa
      generalize hH4 : upd H3 p (.lst [.int 0, .int 1, .int (-1), .int x2, .int (-((10 : Int) ^ (20 : Int).toNat)), .int q10]) = H4 at *
      refine ⟨pn, cl, p, cells, t3, r3, _, rfl, S4, by omega, hl, (ne_of_none S3.hp np).symm, (by show 0 < 6; omega), (by show 6 < 1000; omega), fun H5 i x t5 r5 sb5 S5 l7 l8 ei => ?_⟩
      obtain ⟨j, rfl, hj⟩ : ∃ j : Int, x = .int j ∧ j.natAbs < B := by
        rcases i with _ | _ | _ | _ | _ | _ | i
        · exact ⟨_, (Option.some.inj ei).symm, by show 0 < B; omega⟩
        · exact ⟨_, (Option.some.inj ei).symm, by show 1 < B; omega⟩
        · exact ⟨_, (Option.some.inj ei).symm, by show 1 < B; omega⟩
        · exact ⟨_, (Option.some.inj ei).symm, by omega⟩
        · exact ⟨_, (Option.some.inj ei).symm, by rw [e20]; exact p20⟩
        · exact ⟨_, (Option.some.inj ei).symm, hq2⟩
        · cases ei
      have hj2 := hj
      rw [← hb] at hj2
      obtain ⟨g1, g2⟩ := int_rd (k := 300) (by decide) (by decide) hj2
      refine ⟨j, rfl, Nat.lt_trans hj p43, ?_⟩
      exact one_ (d := .int j) (((((sb1.trans sb2).trans sb3)).trans (Same.but sa)).trans sb5) S5 (by omega) (by omega) rfl rfl ⟨g1, Nat.zero_le _, by
        show (iStr j).length + 1 ≤ SZ n
        omega⟩
    rw [decide_eq_false w3]
    have hn0 : n ≠ 0 := fun e => w3 (v4 e)
    obtain ⟨m, rfl⟩ : ∃ m, n = m + 1 := ⟨n - 1, by omega⟩
    refine iteF ⟨_, rfl, rfl, _, rfl, ?_⟩
    by_cases w4 : V.int v = V.int 4
    · rw [decide_eq_true w4]
      refine iteT ⟨_, rfl, rfl, fun H2 lc ts sc nl el pr => ⟨pn, cl, lc, cells, t1, r1, _, rfl, S1.mono sc, by omega, el, fun e => ?_, ?_, ?_, fun H3 i x t3 r3 sb3 S3 l3 l4 ei => ?_⟩⟩
      · rw [e, S1.hp] at nl
        cases nl
      · rw [List.length_map, pr.len]
        decide +kernel
      · rw [List.length_map, pr.len]
        decide +kernel
      rw [List.getElem?_map] at ei
      obtain ⟨ta, eta, rfl⟩ : ∃ ta, ts[i]? = some ta ∧ x = .ref ta := by
        cases z : ts[i]? with
        | none =>
          rw [z] at ei
          cases ei
        | some ta =>
          rw [z] at ei
          exact ⟨ta, rfl, (Option.some.inj ei).symm⟩
      obtain ⟨⟨z, c⟩, ep, et⟩ := PairsAt.at pr eta
      have et3 := sb3 _ _ (ne_of et (sc _ _ S1.hp) fun z => by cases z) et
      have g1 : ∀ q ∈ counts, counts.lookup q.1 = some q.2 ∧ q.2 ≤ 7 ∧ q.1.length ≤ 8 := by decide +kernel
      obtain ⟨k1, k2, k3⟩ := g1 _ (List.mem_of_getElem? ep)
      have k1 : counts.lookup z = some c := k1
      have k2 : c ≤ 7 := k2
      have k3 : z.length ≤ 8 := k3
      have c7 : (c : Int) * NV m ≤ 7 * NV m := Int.mul_le_mul_of_nonneg_right (by omega) (by have := NV_pos m; omega)
      have nvm : NV (m + 1) = 3 + 7 * NV m := rfl
      have szm : SZ (m + 1) = 20 + 7 * SZ m := rfl
      refine ⟨ta, _, rfl, SqT.of et3, rfl, _, _, rfl, _, _, rfl, rfl, ?_⟩
      refine ⟨_, rfl, (by show 2 ≤ sizeLine; decide), fun pa npa => ⟨_, rfl, (c : Int), rfl, by omega, by omega, fun D2 nD => ?_⟩⟩
      have sa : Same H3 (upd H3 pa (.lst [.str "[", .str z])) := Same.new npa
      have ea : upd H3 pa (.lst [.str "[", .str z]) pa = some (.lst ((["[", z] : List Str).map V.str)) := upd_same
      have pap : pa ≠ pn := (ne_of_none S3.hp npa).symm
      have S4 := S3.mono sa
      generalize upd H3 pa (.lst [.str "[", .str z]) = H4 at *
      have sb4 : SameBut pn H H4 := ((sb1.trans (Same.but sc)).trans sb3).trans (Same.but sa)
      have cN : ((c : Int)).toNat = c := by omega
      rw [cN]
      refine val_many nD S4 k2 (by omega) (by omega) fun H5 ls ds t5 r5 sb5 hD5 hr5 S5 l5 l6 hl5 h1 h2 h3 => ?_
      have le1 := Ws_le ds
      have le2 : c * SZ m ≤ 7 * SZ m := Nat.mul_le_mul_right _ k2
      refine val_fin (pre := ["[", z]) (sb5 _ _ pap ea) hD5 hr5 (by show 2 + (Ws ds).length + 1 ≤ sizeLine; omega) fun H6 p s6 np e6 => ?_
      have sb6 : SameBut pn H H5 := sb4.trans sb5
      refine q H6 p (.pap ((wnum z).getD 0) z ds) t5 r5 (sb6.trans (Same.but s6)) (fresh1 sb6 S5 np) e6 (S5.mono s6) (by omega) (by omega) ⟨⟨by rw [k1, hl5], rfl, h1⟩, ?_, ?_⟩
      · show depS ds + 1 ≤ m + 1
        omega
      · show 5 + z.length + szS ds ≤ SZ (m + 1)
        omega
    rw [decide_eq_false w4]
    refine iteF ?_
    have c7 : (3 : Int) * NV m ≤ 7 * NV m := Int.mul_le_mul_of_nonneg_right (by omega) (by have := NV_pos m; omega)
    have nvm : NV (m + 1) = 3 + 7 * NV m := rfl
    have szm : SZ (m + 1) = 20 + 7 * SZ m := rfl
    refine ⟨(by show 1 ≤ sizeLine; decide), fun pa npa => ?_⟩
    have sa : Same H1 (upd H1 pa (.lst [.str "("])) := Same.new npa
    have ea : upd H1 pa (.lst [.str "("]) pa = some (.lst ((["("] : List Str).map V.str)) := upd_same
    have pap : pa ≠ pn := (ne_of_none S1.hp npa).symm
    have S2 := S1.mono sa
    generalize upd H1 pa (.lst [.str "("]) = H2 at *
    refine ⟨_, rfl, pn, cl, cells, t1, r1, 4, rfl, S2, by omega, by decide, by decide, fun H3 x3 t3 r3 sb3 S3 l3 l4 y0 y1 => ?_⟩
    obtain ⟨c, rfl⟩ : ∃ c : Nat, x3 = c := ⟨x3.toNat, by omega⟩
    refine ⟨(c : Int), rfl, by omega, by omega, fun D2 nD => ?_⟩
    have sb4 : SameBut pn H H3 := (sb1.trans (Same.but sa)).trans sb3
    have cN : ((c : Int)).toNat = c := by omega
    rw [cN]
    have c8 : (c : Int) * NV m ≤ 3 * NV m := Int.mul_le_mul_of_nonneg_right (by omega) (by have := NV_pos m; omega)
    refine val_many nD S3 (by omega) (by omega) (by omega) fun H5 ls ds t5 r5 sb5 hD5 hr5 S5 l5 l6 hl5 h1 h2 h3 => ?_
    have le1 := Ws_le ds
    have le2 : c * SZ m ≤ 7 * SZ m := Nat.mul_le_mul_right _ (by omega)
    refine val_fin (pre := ["("]) (sb5 _ _ pap (sb3 _ _ pap ea)) hD5 hr5 (by show 1 + (Ws ds).length + 1 ≤ sizeLine; omega) fun H6 p s6 np e6 => ?_
    have sb6 : SameBut pn H H5 := sb4.trans sb5
    refine q H6 p (.tup ds) t5 r5 (sb6.trans (Same.but s6)) (fresh1 sb6 S5 np) e6 (S5.mono s6) (by omega) (by omega) ⟨h1, ?_, ?_⟩
    · show depS ds + 1 ≤ m + 1
      omega
    · show 4 + szS ds ≤ SZ (m + 1)
      omega
end
end K6
end
section -- KNe
set_option maxHeartbeats 1000000
/-! != of instances with their own ==: by object.__ne__. -/
namespace K6
open PySem PySem.Spec PyProof.Rows PySem.W
section
variable {prog : Program} {w : World} {A : Around} {E : Value → Shared → Prop} {s : Shared} {K : Frag} {x C L f : Addr} {h₀ : Heap} {m : Str → Option Value} {ox : Obj} {od : Option Obj} {name : Str} {b tb : Value}
theorem ifBound_B {M : Model} {args : List Value} {id : String} {Q : Option Value → Shared → Prop} (X : K.In s.heap) (I : InstAt s.heap x ox C od) (hs : findIn K (.ref C) name = some (some (.builtin id))) (hb : ∀ self, bindSpecial (.builtin id) self = pure (.builtin id, [self]))
    (h : wpAny M A (call (.builtin id) (.ref x :: args)) (fun v => Q (some v)) E s) : wpAny M A (callSpecialIfBound? (.ref x) name args) Q E s := by
  simp only [callSpecialIfBound?, bindSpecialIfBound?]
  refine wpAny_holding (wpAny_bind (wpAny_bind (wpAny_bind (I.type.here ((looks_findIn X hs).here ?_)))))
  simp only [hb]
  refine wpAny_bind (wpAny_askSetting (wpAny_ite ?_))
  have fin : wpAny M A (call (.builtin id) ([.ref x] ++ args) >>= fun v => pure (some v)) Q E s := wpAny_bind (wpAny_mono h (fun v s' h' => wpAny_pure h') fun _ _ h' => h')
  split
  · exact wpAny_bind (wpAny_pure (wpAny_pure fin))
  · exact wpAny_tryCatch (wpAny_bind (wpAny_pure (wpAny_pure fin)))
theorem objNe_own {Q : Fin → Shared → Prop} (hu : A.units < cLine) (X : K.In s.heap) (I : InstAt s.heap x ox C od) (hs : findIn K (.ref C) "__eq__" = some (some (.ref f))) (hf : isFn K (.ref f) = true)
    (h : wpAny (model prog w) A (call (.ref f) [.ref x, b]) (fun v s' => v = .bool true ∧ Q (.done (.ret (.bool false))) s') E s) : wpAny (model prog w) A (Builtin.«object.__ne__» ⟨[.ref x, b], []⟩) Q E s := by
  unfold Builtin.«object.__ne__»
  repeat (first | with_reducible refine wpAny_cRoomFor hu ?_ | with_reducible refine ifBound_K X I hs hf (wpAny_mono h (fun v s' hv => ?_) fun _ _ e => e) | wp_step)
  obtain ⟨rfl, hq⟩ := hv
  repeat (first | wp_step)
  exact hq
theorem ne_K {Q : Value → Shared → Prop} (hu : A.units + 1 < cLine) (F : Fr h₀ L s.heap m) (X₀ : K.In h₀) (I : InstAt s.heap x ox C od) (hb : Looks (model prog w) s.heap (typeOf b) tb) (hn : notFirst K C tb = true)
    (hN : findIn K (.ref C) "__ne__" = some (some (.builtin "object.__ne__"))) (ho : subIn K (.ref C) (.type "object") = some true)
    (hs : findIn K (.ref C) "__eq__" = some (some (.ref f))) (hf : isFn K (.ref f) = true)
    (h : wpAny (model prog w) A.in1 (call (.ref f) [.ref x, b]) (fun v s' => v = .bool true ∧ Q (.bool false) s') E s) : wpAny (model prog w) A (richCompare .NotEq (.ref x) b) Q E s := by
  have X := X₀.keeps F.keep
  have S := PySem.F.cmp_object.ne
  have sub : Looks (model prog w) s.heap (isInstance (.ref x) (.type "object")) true := I.type.andThen (looks_subIn X ho)
  have hu0 : A.units < cLine := by omega
  have one : wpAny (model prog w) A (tryCompare (.ref x) (cmpInfo .NotEq).2.1 b) (fun r s' => ∃ v, r = some v ∧ Q v s') E s := by
    unfold tryCompare
    refine wpAny_bind (ifBound_B X I hN S.bind (wpAny_call (codeAny_call_builtin S.plain PySem.F.cmpEntry_ne (check_slot PySem.F.cmpKind_ne PySem.F.cmpSplit_ne sub (PySem.F.cmpArgs_ne _ _) ?_))))
    refine objNe_own (A := A.in1) hu X I hs hf (wpAny_mono h (fun v s' hv => ?_) fun _ _ e => e)
    obtain ⟨rfl, hq⟩ := hv
    exact ⟨rfl, wpAny_pure ⟨_, rfl, hq⟩⟩
  unfold richCompare
  simp only [oneThing_ref]
  refine wpAny_holding (wpAny_bind (wpAny_cRoomFor hu0 ?_))
  refine wpAny_bind (I.type.here (wpAny_bind (hb.here ?_)))
  split
  · rename_i q
    have e : subIn K tb (.ref C) = some false := by
      rcases Bool.or_eq_true_iff.mp hn with e | e
      · rw [beq_iff_eq.mp e] at q; simp at q
      · exact beq_iff_eq.mp e
    refine wpAny_bind ((looks_subIn X e).here ?_)
    simp only [Bool.false_eq_true, if_false]
    refine wpAny_bind (wpAny_mono one (fun r s' z => ?_) fun _ _ e => e)
    obtain ⟨v, rfl, hq⟩ := z
    exact wpAny_pure hq
  · refine wpAny_bind (wpAny_pure ?_)
    simp only [Bool.false_eq_true, if_false]
    refine wpAny_bind (wpAny_mono one (fun r s' z => ?_) fun _ _ e => e)
    obtain ⟨v, rfl, hq⟩ := z
    exact wpAny_pure hq
end
section
open L2 NdefX
variable {X : Cx} {n : Nat} {D : Eqv}
def RcN (X : Cx) (n : Nat) (D : Eqv) : Prop :=
  ∀ (A : Around) (pins : List (Addr × Obj)) (s : Shared) (σ : L2.St) (H : Hp) (x y : V) (u v : Value), Sub X (n + 1) A → Inv X pins σ H s → RelV x u → RelV y v → D x y H →
    wpAny (model X.prog X.w) A (richCompare .NotEq u v) (fun r s' => r = .bool false ∧ ∃ H', Inv X pins σ H' s' ∧ Ext H H') X.xe s
theorem rcN_ins {CX : CXT} {C f : Addr} {fd : FuncData} {ps : List Str} {R : Addr → Addr → Hp → Prop} {E : XK} (F : FnOk X.prog X.w X.K X.mg X.base CX n f fd ps (spEq R))
    (hN : PySem.W.findIn X.K (.ref C) "__ne__" = some (some (.builtin "object.__ne__"))) (ho : PySem.W.subIn X.K (.ref C) (.type "object") = some true)
    (hs : PySem.W.findIn X.K (.ref C) "__eq__" = some (some (.ref f))) (hf : PySem.W.isFn X.K (.ref f) = true) (hb : Binds X.K fd ps []) (hx : Passes CX X E) : RcN X n (DIns C R) := by
  intro A pins s σ H x y u v sb I rx ry d
  obtain ⟨a, b, dx, dy, fs, gs, rfl, rfl, ha, hb', hr⟩ := d
  cases rx
  cases ry
  obtain ⟨mA, J, _⟩ := ins_get I.hok ha
  obtain ⟨mB, J', _⟩ := ins_get I.hok hb'
  obtain ⟨od, J, _⟩ := J.look
  obtain ⟨od', J', _⟩ := J'.look
  obtain ⟨m, hF⟩ := I.fr
  refine ne_K (tb := .ref C) (by have := sb.room.un; omega) hF I.ok.mod.kin J J'.type (by simp [PySem.W.notFirst]) hN ho hs hf ?_
  have hsp : spEq R [.ref a, .ref b] H (fun v H' => v = .bl true ∧ Ext H H') E := ⟨a, b, rfl, hr, fun H' e => ⟨rfl, e⟩⟩
  have e0 : Env0 X.prog X.w X.K X.mg X.base A X.stack s H := by
    have e := I.env0
    exact ⟨by rw [sb.fr]; exact e.frames, e.mod, e.bs, e.bsz, e.funs, e.frf, e.hok, e.bare⟩
  have hl := F.len _ _ _ _ hsp
  have r2 : Vals [V.ref a, V.ref b] [Value.ref a, Value.ref b] := .cons rfl (.cons rfl .nil)
  have room1 : Room n A.in1 := sb.room.in1
  refine wpAny_call (codeAny_mono (F.run A.in1 X.stack s H ⟨[.ref a, .ref b], []⟩ [.ref a, .ref b] [.ref a, .ref b] _ E room1 e0.in1 (by
    have := hb s [.ref a, .ref b] I.kIn (by simpa using hl)
    simpa using this) r2 hsp) fun r s' hq => ?_)
  cases r with
  | error e => exact hx pins σ H s e s' I hq
  | ok fl =>
    cases fl with
    | ret w =>
      obtain ⟨z, H', I', rz, ez, ex⟩ := I.after hq
      subst ez
      cases rz
      exact ⟨rfl, rfl, H', I', ex⟩
    | next => exact False.elim hq
    | brk => exact False.elim hq
    | cont => exact False.elim hq
def rNeG (D : Eqv) : R2 := fun x y H Q => D x y H ∧ ∀ H', Ext H H' → Q (.bl false) H'
theorem op_neG (h : RcN X n D) (hr : Room (n + 1) X.A) : OpR X (compareOp .NotEq) (rNeG D) := by
  intro pins s σ H x y v u Q I rx ry hq
  obtain ⟨d, q⟩ := hq
  show wpAny (model X.prog X.w) X.A (richCompare .NotEq v u) (EP X pins σ Q) X.xe s
  refine wpAny_mono (h X.A pins s σ H x y v u ⟨hr, rfl⟩ I rx ry d) (fun r s' z => ?_) fun _ _ x => x
  obtain ⟨hr', H', I', e⟩ := z
  subst hr'
  exact ⟨.bl false, H', I', rfl, q H' e⟩
end
end K6
end
section -- KNe2
set_option maxHeartbeats 1000000
/-! != of two papers that are alike. -/
namespace K6
open PySem PySem.Spec PyProof.Rows L2 NdefX
/-- what the head must give of the classes for != -/
structure NeT (K : PySem.W.Frag) : Prop where
  ne : ∀ c, c < 24 → PySem.W.findIn K (.ref (ca K c)) "__ne__" = some (some (.builtin "object.__ne__"))
def DPap (K : PySem.W.Frag) (r : Nat) : Eqv := fun x y H => ∃ a b, x = .ref a ∧ y = .ref b ∧ REq K r a b H
theorem rcN_pap {X : Cx} (T : Txt X.w X.K X.mg) (N : NeT X.K) {k r : Nat} {fd : FuncData} (F : FnOk X.prog X.w X.K X.mg X.base CX0 k (He.ma X.K (ca X.K 0) "__eq__") fd ["self", "other"] (spEq (REq X.K r))) (hb : Binds X.K fd ["self", "other"] []) :
    RcN X k (DPap X.K r) := by
  intro A pins s σ H x y u v sb I rx ry d
  obtain ⟨a, b, rfl, rfl, h⟩ := d
  have h0 := h
  obtain ⟨c, z, ds, ra, rb, hd⟩ := h
  have hc := (likeD_parts hd).1
  cases ra with
  | pap ha _ _ _ _ _ _ =>
    cases rb with
    | pap hb2 _ _ _ _ _ _ => exact rcN_ins (C := ca X.K c) (E := E0) F (N.ne c hc) (T.p c hc).hm (T.p c hc).eq T.e0 hb pass0 A pins s σ H _ _ u v sb I rx ry ⟨a, b, _, _, _, _, rfl, rfl, ha, hb2, h0⟩
end K6
end
section -- KKw
set_option maxHeartbeats 1000000
/-! Calls with keywords only. -/
namespace K6
open PySem PySem.Spec PyProof.Rows L2 NdefX
section
variable {X : Cx} {CX : CXT} {k : Nat} {f : Addr} {fd : FuncData} {ps ks : List Str} {sp : Sp} {E : XK} {x : Str} {p pos : Pos} {tk : TA} {kws : List Keyword}
variable {g : List Value → List Value → List Value} {gV : List V → List V → List V}
theorem pe_callK0 (F : FnOk X.prog X.w X.K X.mg X.base CX k f fd ps sp) (hr : Room k X.A) (hg : Gl X x) (hm : X.mg x = some (.ref f)) (hk : PySem.W.keepIn X.K (.ref f) = true) (hb : KBinds X.K fd ps ks g gV) (hx : Passes CX X E)
    (hkw : PK X kws tk) (hall : (backToKw pos (keywordEach kws X.env)).all (·.1.isSome) = true := by rfl) (hks : (backToKw pos (keywordEach kws X.env)).filterMap (·.1) = ks := by rfl)
    (hdb : (x == ("__debug__" : Str)) = false := by decide)
    (hpl : ((backTo pos (starEach [] X.env)).any (·.1) || (backToKw pos (keywordEach kws X.env)).any (·.1.isNone)) = false := by rfl) :
    PE X (.Call (.Name x p) [] kws pos) (tCallK sp gV E tNil tk) := by
  refine ⟨fun pins s σ H Q I h => ?_⟩
  obtain ⟨u, h⟩ : True ∧ tk σ H (fun zs H2 => sp (gV [] zs) H2 Q E) := ⟨trivial, h⟩
  refine wpAny_Call_Name_kw (ld_glob I hg hm ?_ hdb)
  refine PySem.W.callWith_KW0 (h₀ := X.base) I.ok.mod.kin hk hall (thn (hkw.run pos pins s σ H _ I h) fun ws s2 ⟨zs, H2, I2, rz, q2⟩ => ⟨I2.kIn, ?_⟩) hpl
  rw [hks]
  exact run_fnk F hr hb hx I2 .nil rz q2
end
/-- one parameter, given by its name -/
theorem kw1 {K : PySem.W.Frag} {x q : Str} {i : Nat} {fd : FuncData} (F : FnT K x i fd)
    (h : ∀ (kV doc pm : Value) (an : Option Addr) (cdv ct v : Value), bindArgs (PySem.W.fnOf x x (defArgs (top i)) (defBody (top i)) (defScope (top i)) .none kV doc pm an cdv ct) ⟨[], [(q, v)]⟩ = pure [(q, v)])
    (h' : ∀ (kV doc pm : Value) (an : Option Addr) (cdv ct v : Value), bindArgs (PySem.W.fnOf x x (defArgs (top i)) (defBody (top i)) (defScope (top i)) .none kV doc pm an cdv ct) ⟨[v], []⟩ = pure [(q, v)]) : KBinds K fd [q] [q] (fun us ws => us ++ ws) (fun vs zs => vs ++ zs) := by
  obtain ⟨oc, od, dV, kV, doc, pm, an, cdv, ct, osl, rfl, lk, hcd, hD, hK⟩ := F.ex
  rcases hD with ⟨_, rfl⟩ | ⟨e, _⟩
  · refine ⟨fun s us ws X hl => ?_, fun r r' => r.append r'⟩
    match us, ws, hl with
    | [], [v], _ => exact BindsTo.of_eq (h kV doc pm an cdv ct v)
    | [v], [], _ => exact BindsTo.of_eq (h' kV doc pm an cdv ct v)
  · exact absurd rfl e
theorem kb_read {K : PySem.W.Frag} {fd : FuncData} (F : FnT K "read_paper" 85 fd) : KBinds K fd ["text"] ["text"] (fun us ws => us ++ ws) (fun vs zs => vs ++ zs) := kw1 F (fun _ _ _ _ _ _ v => by kernel_rfl) (fun _ _ _ _ _ _ v => rfl)
theorem kb_text {K : PySem.W.Frag} {fd : FuncData} (F : FnT K "paper_text" 84 fd) : KBinds K fd ["paper"] ["paper"] (fun us ws => us ++ ws) (fun vs zs => vs ++ zs) := kw1 F (fun _ _ _ _ _ _ v => by kernel_rfl) (fun _ _ _ _ _ _ v => rfl)
end K6
end
section -- KGH
set_option maxHeartbeats 1000000
/-! plain law: a text joined of words without blanks is split into them. -/
namespace K6
open PySem PySem.Spec PyProof.Rows L2 NdefX
theorem nm_blank {z : Str} (h : isNm z = true) : 32 ∉ z.cps.toList := by
  unfold isNm at h
  cases e : z.cps.toList with
  | nil => exact List.not_mem_nil
  | cons c r =>
    rw [e] at h
    intro m
    have h2 := (Bool.and_eq_true_iff.mp h).2
    have h3 := of_decide_eq_true (List.all_eq_true.mp h2 32 m)
    exact absurd h3 (by decide +kernel)
theorem wr_blank {z : Str} (h : isWr z = true) : 32 ∉ z.cps.toList := by
  have h : isWrL z.cps.toList = true := h
  unfold isWrL at h
  intro m
  have m2 : 32 ∈ figs z.cps.toList := by
    rcases figs_or z.cps.toList with e | e
    · rw [← e]
      exact m
    · rw [e] at m
      rcases List.mem_cons.mp m with m | m
      · cases m
      · exact m
  cases e : figs z.cps.toList with
  | nil =>
    rw [e] at m2
    cases m2
  | cons c r =>
    rw [e] at h m2
    have h2 := (Bool.and_eq_true_iff.mp (Bool.and_eq_true_iff.mp h).1).2
    have h3 := of_decide_eq_true (List.all_eq_true.mp h2 32 m2)
    exact absurd h3 (by decide +kernel)
mutual
theorem W_blank : ∀ d : Dat, d.rd → ∀ z ∈ d.W, 32 ∉ z.cps.toList
  | .non, _, z, m => by
    rw [List.mem_singleton.mp m]
    decide +kernel
  | .bl _, h, _, _ => h.elim
  | .int i, h, z, m => by
    rw [List.mem_singleton.mp m]
    exact wr_blank h.1
  | .str x, h, z, m => by
    rw [List.mem_singleton.mp m]
    exact nm_blank h
  | .emp, h, _, _ => h.elim
  | .lst _, h, _, _ => h.elim
  | .tup ds, h, z, m => by
    rcases List.mem_cons.mp m with m | m
    · rw [m]
      decide +kernel
    · rcases List.mem_append.mp m with m | m
      · exact Ws_blank ds h z m
      · rw [List.mem_singleton.mp m]
        decide +kernel
  | .pap c x ds, h, z, m => by
    rcases List.mem_cons.mp m with m | m
    · rw [m]
      decide +kernel
    · rcases List.mem_cons.mp m with m | m
      · rw [m]
        have g : ∀ q ∈ counts, 32 ∉ q.1.cps.toList := by decide +kernel
        exact g _ (lookup_memK h.1)
      · rcases List.mem_append.mp m with m | m
        · exact Ws_blank ds h.2.2 z m
        · rw [List.mem_singleton.mp m]
          decide +kernel
theorem Ws_blank : ∀ ds : List Dat, rdS ds → ∀ z ∈ Ws ds, 32 ∉ z.cps.toList
  | [], _, _, m => by cases m
  | d :: r, h, z, m => by
    rcases List.mem_append.mp m with m | m
    · exact W_blank d h.1 z m
    · exact Ws_blank r h.2 z m
end
/-- a text joined of such words is split into them -/
theorem split_words {ws : List Str} (ne : ws ≠ []) (h : ∀ z ∈ ws, 32 ∉ z.cps.toList) : Txt.split (Txt.join " " ws) " " = ws :=
  TL.split_join (y := " ") (s := 32) (S := []) (by decide +kernel) (by decide +kernel) ne h
end K6
end
section -- KG4
set_option maxHeartbeats 4000000
/-! _law_at_heard: what a call returns in a list, or the word and the fields of its error (printed by gen_g4.py). -/
namespace K6
open PySem PySem.Spec PyProof.Rows L2 NdefX LamX
/-- what the head must give of a class of errors that is caught and looked at -/
structure HdC (K : PySem.W.Frag) (nm : Str) (fs : List Str) : Prop where
  ex : ExcC K (He.ga K nm)
  xf : XfC K (He.ga K nm)
  tw : PySem.W.exmOne K (.ref (He.ga K nm)) (.ref (He.ga K "TowerError")) = some true
  kit : ∀ D ∈ errs, PySem.W.kitOne K (.ref (He.ga K nm)) (.ref (He.ga K D)) = some (decide (D = nm))
  no : ∀ f ∈ fs, PySem.W.findIn K (.ref (He.ga K nm)) f = some none
/-- what it makes of what is raised -/
def HeardX (K : PySem.W.Frag) (Q : VK) : XK := fun cls d H' =>
  (∃ (dd : Addr) (n : Int), cls = .ref (He.ga K "BadText") ∧ d = some dd ∧ H' dd = some (.xd [("word", .int n), ("line", .int 0)]) ∧ ∀ H2 p, Same H' H2 → H' p = none → H2 p = some (.tup [.str "text", .int 0, .int n]) → Q (.ref p) H2) ∨
  (∃ (dd : Addr) (m : Str), cls = .ref (He.ga K "BadPaper") ∧ d = some dd ∧ H' dd = some (.xd [("part", .str m)]) ∧ ∀ H2 p, Same H' H2 → H' p = none → H2 p = some (.tup [.str "paper", .str m]) → Q (.ref p) H2)
/-- what it makes of the call's reading -/
def TTh (K : PySem.W.Frag) : (XK → Hp → VK → Prop) → Hp → VK → Prop := fun tl H Q =>
  ∀ (H1 : Hp) (Q' : VK), Same H H1 → (∀ v H', (∀ H2 p, Same H' H2 → H' p = none → H2 p = some (.lst [v]) → Q (.ref p) H2) → Q' v H') → tl (HeardX K Q) H1 Q'
abbrev NHd : List Str := ["ask", "found", "caught", "error", "some", "words", "word", "is_one"]
theorem sc_heard : FnScope NHd ["ask"] (defScope (top 90)) := ⟨rfl, rfl, rfl, by decide +kernel, rfl, by decide +kernel, by decide +kernel⟩
/-- what is never walked -/
theorem pss_never {X : Cx} {b : List Stmt} : PSs X b (fun _ _ _ => False) := ⟨fun _ _ _ _ _ _ h => h.elim⟩
theorem pe_never {X : Cx} {e : Expr} : PE X e (fun _ _ _ => False) := ⟨fun _ _ _ _ _ _ h => h.elim⟩
/-- pairs of a text and a truth value -/
def PairsB (H : Hp) : List Addr → List (Str × Bool) → Prop
  | [], [] => True
  | t :: ts, p :: ps => H t = some (.tup [.str p.1, .bl p.2]) ∧ PairsB H ts ps
  | _, _ => False
theorem PairsB.at {H : Hp} : ∀ {ts : List Addr} {ps : List (Str × Bool)} {i : Nat} {t : Addr}, PairsB H ts ps → ts[i]? = some t → ∃ p, ps[i]? = some p ∧ H t = some (.tup [.str p.1, .bl p.2])
  | [], [], i, t, _, h => by simp at h
  | u :: ts, p :: ps, 0, t, h, e => ⟨p, rfl, by rw [← Option.some.inj e]; exact h.1⟩
  | u :: ts, p :: ps, i + 1, t, h, e => PairsB.at (i := i) h.2 e
  | [], _ :: _, _, _, h, _ => h.elim
  | _ :: _, [], _, _, h, _ => h.elim
theorem PairsB.mono {H H' : Hp} (s : Same H H') : ∀ {ts : List Addr} {ps : List (Str × Bool)}, PairsB H ts ps → PairsB H' ts ps
  | [], [], _ => trivial
  | t :: ts, p :: ps, h => ⟨s _ _ h.1, PairsB.mono s h.2⟩
  | [], _ :: _, h => h.elim
  | _ :: _, [], h => h.elim
def kinds (b : Bool) : List (Str × Bool) := [("value", false), ("number", false), ("kind", false), ("kit", false), ("tower", false), ("frame", false), ("plan", false), ("site", false), ("paper", b), ("misfit", false)]
def picked (ps : List (Str × Bool)) : List V := (ps.filter (·.2)).map fun p => V.str p.1
theorem picked_step {ps : List (Str × Bool)} {i : Nat} {p : Str × Bool} (h : ps[i]? = some p) : picked (ps.take (i + 1)) = if p.2 = true then picked (ps.take i) ++ [V.str p.1] else picked (ps.take i) := by
  unfold picked
  rw [List.take_add_one, h, List.filter_append, List.map_append]
  cases e : p.2 <;> simp [e]
section
variable {X : Cx}
theorem heard_gives (T : Txt X.w X.K X.mg) (hT : HdC X.K "BadText" ["line", "word"]) (hP : HdC X.K "BadPaper" ["part"]) {q : Str} {cdv : Value} :
    GivesS X NHd "_law_at_heard" (defScope (top 90)) (He.ga X.K "_law_at_heard") cdv (defBody (top 90)) "ask" q (TTh X.K) := by
  intro f c' s H Q tl act hc h
  have ND := sc_heard.nd
  have mI := T.z "isinstance" (by decide +kernel)
  have mL := T.z "len" (by decide +kernel)
  refine ⟨_, pss_cons (ps_asg (pe_tup (pa_cons pe_non (pa_cons pe_non pa_nil))) (pg_tup rfl (pgs_cons (pg_name (i := 1) ND rfl (Or.inl rfl)) (pgs_cons (pg_name (i := 2) ND rfl (Or.inl rfl)) pgs_nil))))
    (pss_cons (ps_try_asK (X := (cxOf C8.CX0 X.prog X.w X.K X.mg X.base NHd "_law_at_heard" (defScope (top 90)) (He.ga X.K "_law_at_heard") cdv X.A X.stack s H C8.E0).nox) (i := 3) (c := .ref (He.ga X.K "TowerError"))
      (tb := fun W D σ H => ∃ Ech : XK, (∀ cls d H', Ech cls d H' → W cls d σ H') ∧ σ[0]? = some (some (.ref f)) ∧ H c' = some (CodeO c' q) ∧ tl Ech H fun v H' => D.nx (σ.set 1 (some v)) H')
      rfl rfl rfl ND rfl rfl ⟨rfl, by decide, .inl (T.g "TowerError" (by decide +kernel))⟩ L2.takes0 (fun W pn xe tk _ => ⟨fun pins s' σ H' D I h' => by
        obtain ⟨Ech, hW, h1, h2, h3⟩ := h'
        exact (pss_one (ps_set (i := 1) ND rfl (Or.inl rfl) (act W pn xe _ _ tk))).run pins s' σ H' D I ⟨h1, h2, Ech, hW, h3⟩⟩) (fun a oe cls d pn _ _ => pss_one (ps_set (i := 2) ND rfl (Or.inl rfl) (pv 3))))
    (pss_cons (ps_if (pt_cmpR op_isN (pv 2) pe_non (nomark _)) (pss_one (ps_ret (pe_lst (pa_cons (pv 1) pa_nil)))) pss_nil)
    (pss_cons (ps_if (pt_val (pe_callB call_isX rfl mI (by decide +kernel) (pa_cons (pv 2) (pa_cons (pe_go (T.g "TooMany" (by decide +kernel))) pa_nil)))) pss_never pss_nil)
    (pss_cons (ps_if (pt_val (pe_callB call_isX rfl mI (by decide +kernel) (pa_cons (pv 2) (pa_cons (pe_go (T.g "BadText" (by decide +kernel))) pa_nil)))) (pss_one (ps_ret (pe_tup (pa_cons pe_str (pa_cons (pe_xo (pv 2)) (pa_cons (pe_xo (pv 2)) pa_nil)))))) pss_nil)
    (pss_cons (ps_if (pt_val (pe_callB call_isX rfl mI (by decide +kernel) (pa_cons (pv 2) (pa_cons (pe_go (T.g "BadWord" (by decide +kernel))) pa_nil)))) pss_never pss_nil)
    (pss_cons (ps_if (pt_val (pe_callB call_isX rfl mI (by decide +kernel) (pa_cons (pv 2) (pa_cons (pe_go (T.g "BadName" (by decide +kernel))) pa_nil)))) pss_never pss_nil)
    (pss_cons (ps_if (pt_val (pe_callB call_isX rfl mI (by decide +kernel) (pa_cons (pv 2) (pa_cons (pe_go (T.g "NoName" (by decide +kernel))) pa_nil)))) pss_never pss_nil)
    (pss_cons (ps_if (pt_val (pe_callB call_isX rfl mI (by decide +kernel) (pa_cons (pv 2) (pa_cons (pe_go (T.g "Nothing" (by decide +kernel))) pa_nil)))) pss_never pss_nil)
    (pss_cons (ps_set (i := 4) ND rfl (Or.inl rfl) (pe_lst (pa_cons (pe_tup (pa_cons pe_str (pa_cons (pe_callB call_isX rfl mI (by decide +kernel) (pa_cons (pv 2) (pa_cons (pe_go (T.g "BadValue" (by decide +kernel))) pa_nil))) pa_nil))) (pa_cons (pe_tup (pa_cons pe_str (pa_cons (pe_callB call_isX rfl mI (by decide +kernel) (pa_cons (pv 2) (pa_cons (pe_go (T.g "BadNumber" (by decide +kernel))) pa_nil))) pa_nil))) (pa_cons (pe_tup (pa_cons pe_str (pa_cons (pe_callB call_isX rfl mI (by decide +kernel) (pa_cons (pv 2) (pa_cons (pe_go (T.g "BadKind" (by decide +kernel))) pa_nil))) pa_nil))) (pa_cons (pe_tup (pa_cons pe_str (pa_cons (pe_callB call_isX rfl mI (by decide +kernel) (pa_cons (pv 2) (pa_cons (pe_go (T.g "BadKit" (by decide +kernel))) pa_nil))) pa_nil))) pa_nil))))))
    (pss_cons (ps_set (i := 4) ND rfl (Or.inl rfl) (pe_op op_cat (pv 4) (pe_lst (pa_cons (pe_tup (pa_cons pe_str (pa_cons (pe_callB call_isX rfl mI (by decide +kernel) (pa_cons (pv 2) (pa_cons (pe_go (T.g "BadTower" (by decide +kernel))) pa_nil))) pa_nil))) (pa_cons (pe_tup (pa_cons pe_str (pa_cons (pe_callB call_isX rfl mI (by decide +kernel) (pa_cons (pv 2) (pa_cons (pe_go (T.g "BadFrame" (by decide +kernel))) pa_nil))) pa_nil))) (pa_cons (pe_tup (pa_cons pe_str (pa_cons (pe_callB call_isX rfl mI (by decide +kernel) (pa_cons (pv 2) (pa_cons (pe_go (T.g "BadPlan" (by decide +kernel))) pa_nil))) pa_nil))) (pa_cons (pe_tup (pa_cons pe_str (pa_cons (pe_callB call_isX rfl mI (by decide +kernel) (pa_cons (pv 2) (pa_cons (pe_go (T.g "BadSite" (by decide +kernel))) pa_nil))) pa_nil))) pa_nil)))))))
    (pss_cons (ps_set (i := 4) ND rfl (Or.inl rfl) (pe_op op_cat (pv 4) (pe_lst (pa_cons (pe_tup (pa_cons pe_str (pa_cons (pe_callB call_isX rfl mI (by decide +kernel) (pa_cons (pv 2) (pa_cons (pe_go (T.g "BadPaper" (by decide +kernel))) pa_nil))) pa_nil))) (pa_cons (pe_tup (pa_cons pe_str (pa_cons (pe_callB call_isX rfl mI (by decide +kernel) (pa_cons (pv 2) (pa_cons (pe_go (T.g "Misfit" (by decide +kernel))) pa_nil))) pa_nil))) pa_nil)))))
    (pss_cons (ps_setLc (i := 5) (own := [("word", 6), ("is_one", 7)]) (g := gTup X.K 2 (gCons (gName 6) (gCons (gName 7) gNil))) rfl ND rfl rfl (sw_true rfl rfl rfl (by decide +kernel)) (pi_list (pv 4)) (blkOk_by (own := [("word", 6), ("is_one", 7)]) (N := NHd) (sc := defScope (top 90)) (by decide +kernel))
      (fun _ _ _ _ _ => pg_tup rfl (pgs_cons (pg_name (i := 6) ND rfl (Or.inl rfl)) (pgs_cons (pg_name (i := 7) ND rfl (Or.inl rfl)) pgs_nil))) (fun _ _ _ _ _ => pts_one (pt_val (pv 7))) (fun _ _ _ _ _ => pv 6))
    (pss_one (ps_ret (pe_ifExp (pt_cmpR op_eq (pe_callB call_len_seq rfl mL PySem.boot_len (pa_cons (pv 5) pa_nil)) pe_int (nomark _)) (pe_tup (pa_cons (pe_ix ix_list (pv 5) pe_int (fun _ _ => rfl)) (pa_cons (pe_xo (pv 2)) pa_nil))) pe_never))))))))))))))), ?_⟩
  have two : ([V.non, V.non] : List V).length ≤ sizeLine := by show 2 ≤ sizeLine; decide
  refine ⟨two, fun p0 np0 => ⟨p0, _, rfl, SqT.of upd_same, rfl, _, _, rfl, _, _, rfl, rfl, HeardX X.K Q, fun cls d H' hX => ?_, rfl, Same.new np0 _ _ hc, h _ _ (Same.new np0) fun v H' k => ?_⟩⟩
  · rcases hX with ⟨dd, n, rfl, rfl, hd, k⟩ | ⟨dd, m, rfl, rfl, hd, k⟩
    · refine ⟨true, hT.tw, fun _ => ⟨_, dd, rfl, rfl, fun a na => ?_⟩, fun z => nomatch z⟩
      have kf : ∀ D, D ∈ errs → D ≠ "BadText" → PySem.W.kitOne X.K (.ref (He.ga X.K "BadText")) (.ref (He.ga X.K D)) = some false := fun D m n => by rw [hT.kit D m, decide_eq_false n]
      have kt : PySem.W.kitOne X.K (.ref (He.ga X.K "BadText")) (.ref (He.ga X.K "BadText")) = some true := by rw [hT.kit "BadText" (by decide +kernel), decide_eq_true rfl]
      refine ⟨_, rfl, ?_⟩
      have s1 : Same H' (upd H' a (xo a (He.ga X.K "BadText") dd)) := Same.new na
      have ha : upd H' a (xo a (He.ga X.K "BadText") dd) a = some (xo a (He.ga X.K "BadText") dd) := upd_same
      refine ⟨_, rfl, rfl, _, rfl, ?_⟩
      rw [decide_eq_false (show ¬ V.ref a = V.non from fun z => by cases z)]
      generalize upd H' a (xo a (He.ga X.K "BadText") dd) = H1 at s1 ha ⊢
      have hd1 := s1 _ _ hd
      refine iteF ⟨_, rfl, a, _, dd, _, _, false, rfl, ha, hd1, hT.ex, kf "TooMany" (by decide +kernel) (by decide +kernel), _, rfl, iteF ?_⟩
      refine ⟨_, rfl, a, _, dd, _, _, true, rfl, ha, hd1, hT.ex, kt, _, rfl, iteT ?_⟩
      refine ⟨_, rfl, a, _, dd, _, _, rfl, ha, hd1, hT.xf, hT.no "line" (by decide +kernel), rfl, ?_⟩
      refine ⟨_, rfl, a, _, dd, _, _, rfl, ha, hd1, hT.xf, hT.no "word" (by decide +kernel), rfl, ?_⟩
      exact ⟨(by show 3 ≤ sizeLine; decide), fun p np => k _ p (s1.trans (Same.new np)) (s1.free np) upd_same⟩
    · refine ⟨true, hP.tw, fun _ => ⟨_, dd, rfl, rfl, fun a na => ?_⟩, fun z => nomatch z⟩
      have kf : ∀ D, D ∈ errs → D ≠ "BadPaper" → PySem.W.kitOne X.K (.ref (He.ga X.K "BadPaper")) (.ref (He.ga X.K D)) = some false := fun D m n => by rw [hP.kit D m, decide_eq_false n]
      have kt : PySem.W.kitOne X.K (.ref (He.ga X.K "BadPaper")) (.ref (He.ga X.K "BadPaper")) = some true := by rw [hP.kit "BadPaper" (by decide +kernel), decide_eq_true rfl]
      refine ⟨_, rfl, ?_⟩
      have s0 : Same H' (upd H' a (xo a (He.ga X.K "BadPaper") dd)) := Same.new na
      have ha0 : upd H' a (xo a (He.ga X.K "BadPaper") dd) a = some (xo a (He.ga X.K "BadPaper") dd) := upd_same
      refine ⟨_, rfl, rfl, _, rfl, ?_⟩
      rw [decide_eq_false (show ¬ V.ref a = V.non from fun z => by cases z)]
      generalize upd H' a (xo a (He.ga X.K "BadPaper") dd) = H0 at s0 ha0 ⊢
      have hd0 := s0 _ _ hd
      refine iteF ⟨_, rfl, a, _, dd, _, _, false, rfl, ha0, hd0, hP.ex, kf "TooMany" (by decide +kernel) (by decide +kernel), _, rfl, iteF ?_⟩
      refine ⟨_, rfl, a, _, dd, _, _, false, rfl, ha0, hd0, hP.ex, kf "BadText" (by decide +kernel) (by decide +kernel), _, rfl, iteF ?_⟩
      refine ⟨_, rfl, a, _, dd, _, _, false, rfl, ha0, hd0, hP.ex, kf "BadWord" (by decide +kernel) (by decide +kernel), _, rfl, iteF ?_⟩
      refine ⟨_, rfl, a, _, dd, _, _, false, rfl, ha0, hd0, hP.ex, kf "BadName" (by decide +kernel) (by decide +kernel), _, rfl, iteF ?_⟩
      refine ⟨_, rfl, a, _, dd, _, _, false, rfl, ha0, hd0, hP.ex, kf "NoName" (by decide +kernel) (by decide +kernel), _, rfl, iteF ?_⟩
      refine ⟨_, rfl, a, _, dd, _, _, false, rfl, ha0, hd0, hP.ex, kf "Nothing" (by decide +kernel) (by decide +kernel), _, rfl, iteF ?_⟩
      refine ⟨_, rfl, a, _, dd, _, _, false, rfl, ha0, hd0, hP.ex, kf "BadValue" (by decide +kernel) (by decide +kernel), two, fun t1 n1 => ?_⟩
      have s1 : Same H0 (upd H0 t1 (.tup [.str "value", .bl false])) := Same.new n1
      have e1 : upd H0 t1 (.tup [.str "value", .bl false]) t1 = some (.tup [.str "value", .bl false]) := upd_same
      generalize upd H0 t1 (.tup [.str "value", .bl false]) = H1 at s1 e1 ⊢
      have ha1 := s1 _ _ ha0
      have hd1 := s1 _ _ hd0
      refine ⟨_, rfl, a, _, dd, _, _, false, rfl, ha1, hd1, hP.ex, kf "BadNumber" (by decide +kernel) (by decide +kernel), two, fun t2 n2 => ?_⟩
      have s2 : Same H1 (upd H1 t2 (.tup [.str "number", .bl false])) := Same.new n2
      have e2 : upd H1 t2 (.tup [.str "number", .bl false]) t2 = some (.tup [.str "number", .bl false]) := upd_same
      generalize upd H1 t2 (.tup [.str "number", .bl false]) = H2 at s2 e2 ⊢
      have ha2 := s2 _ _ ha1
      have hd2 := s2 _ _ hd1
      have e1 := s2 _ _ e1
      refine ⟨_, rfl, a, _, dd, _, _, false, rfl, ha2, hd2, hP.ex, kf "BadKind" (by decide +kernel) (by decide +kernel), two, fun t3 n3 => ?_⟩
      have s3 : Same H2 (upd H2 t3 (.tup [.str "kind", .bl false])) := Same.new n3
      have e3 : upd H2 t3 (.tup [.str "kind", .bl false]) t3 = some (.tup [.str "kind", .bl false]) := upd_same
      generalize upd H2 t3 (.tup [.str "kind", .bl false]) = H3 at s3 e3 ⊢
      have ha3 := s3 _ _ ha2
      have hd3 := s3 _ _ hd2
      have e1 := s3 _ _ e1
      have e2 := s3 _ _ e2
      refine ⟨_, rfl, a, _, dd, _, _, false, rfl, ha3, hd3, hP.ex, kf "BadKit" (by decide +kernel) (by decide +kernel), two, fun t4 n4 => ?_⟩
      have s4 : Same H3 (upd H3 t4 (.tup [.str "kit", .bl false])) := Same.new n4
      have e4 : upd H3 t4 (.tup [.str "kit", .bl false]) t4 = some (.tup [.str "kit", .bl false]) := upd_same
      generalize upd H3 t4 (.tup [.str "kit", .bl false]) = H4 at s4 e4 ⊢
      have ha4 := s4 _ _ ha3
      have hd4 := s4 _ _ hd3
      have e1 := s4 _ _ e1
      have e2 := s4 _ _ e2
      have e3 := s4 _ _ e3
      refine ⟨(by show 4 ≤ sizeLine; decide), fun l0 n_l0 => ?_⟩
      have s5 : Same H4 (upd H4 l0 (.lst [V.ref t1, V.ref t2, V.ref t3, V.ref t4])) := Same.new n_l0
      have el : upd H4 l0 (.lst [V.ref t1, V.ref t2, V.ref t3, V.ref t4]) l0 = some (.lst [V.ref t1, V.ref t2, V.ref t3, V.ref t4]) := upd_same
      generalize upd H4 l0 (.lst [V.ref t1, V.ref t2, V.ref t3, V.ref t4]) = H5 at s5 el ⊢
      have ha5 := s5 _ _ ha4
      have hd5 := s5 _ _ hd4
      have e1 := s5 _ _ e1
      have e2 := s5 _ _ e2
      have e3 := s5 _ _ e3
      have e4 := s5 _ _ e4
      refine ⟨_, rfl, ?_⟩
      refine ⟨_, rfl, a, _, dd, _, _, false, rfl, ha5, hd5, hP.ex, kf "BadTower" (by decide +kernel) (by decide +kernel), two, fun t6 n6 => ?_⟩
      have s6 : Same H5 (upd H5 t6 (.tup [.str "tower", .bl false])) := Same.new n6
      have e6 : upd H5 t6 (.tup [.str "tower", .bl false]) t6 = some (.tup [.str "tower", .bl false]) := upd_same
      generalize upd H5 t6 (.tup [.str "tower", .bl false]) = H6 at s6 e6 ⊢
      have ha6 := s6 _ _ ha5
      have hd6 := s6 _ _ hd5
      have e1 := s6 _ _ e1
      have e2 := s6 _ _ e2
      have e3 := s6 _ _ e3
      have e4 := s6 _ _ e4
      have el := s6 _ _ el
      refine ⟨_, rfl, a, _, dd, _, _, false, rfl, ha6, hd6, hP.ex, kf "BadFrame" (by decide +kernel) (by decide +kernel), two, fun t7 n7 => ?_⟩
      have s7 : Same H6 (upd H6 t7 (.tup [.str "frame", .bl false])) := Same.new n7
      have e7 : upd H6 t7 (.tup [.str "frame", .bl false]) t7 = some (.tup [.str "frame", .bl false]) := upd_same
      generalize upd H6 t7 (.tup [.str "frame", .bl false]) = H7 at s7 e7 ⊢
      have ha7 := s7 _ _ ha6
      have hd7 := s7 _ _ hd6
      have e1 := s7 _ _ e1
      have e2 := s7 _ _ e2
      have e3 := s7 _ _ e3
      have e4 := s7 _ _ e4
      have e6 := s7 _ _ e6
      have el := s7 _ _ el
      refine ⟨_, rfl, a, _, dd, _, _, false, rfl, ha7, hd7, hP.ex, kf "BadPlan" (by decide +kernel) (by decide +kernel), two, fun t8 n8 => ?_⟩
      have s8 : Same H7 (upd H7 t8 (.tup [.str "plan", .bl false])) := Same.new n8
      have e8 : upd H7 t8 (.tup [.str "plan", .bl false]) t8 = some (.tup [.str "plan", .bl false]) := upd_same
      generalize upd H7 t8 (.tup [.str "plan", .bl false]) = H8 at s8 e8 ⊢
      have ha8 := s8 _ _ ha7
      have hd8 := s8 _ _ hd7
      have e1 := s8 _ _ e1
      have e2 := s8 _ _ e2
      have e3 := s8 _ _ e3
      have e4 := s8 _ _ e4
      have e6 := s8 _ _ e6
      have e7 := s8 _ _ e7
      have el := s8 _ _ el
      refine ⟨_, rfl, a, _, dd, _, _, false, rfl, ha8, hd8, hP.ex, kf "BadSite" (by decide +kernel) (by decide +kernel), two, fun t9 n9 => ?_⟩
      have s9 : Same H8 (upd H8 t9 (.tup [.str "site", .bl false])) := Same.new n9
      have e9 : upd H8 t9 (.tup [.str "site", .bl false]) t9 = some (.tup [.str "site", .bl false]) := upd_same
      generalize upd H8 t9 (.tup [.str "site", .bl false]) = H9 at s9 e9 ⊢
      have ha9 := s9 _ _ ha8
      have hd9 := s9 _ _ hd8
      have e1 := s9 _ _ e1
      have e2 := s9 _ _ e2
      have e3 := s9 _ _ e3
      have e4 := s9 _ _ e4
      have e6 := s9 _ _ e6
      have e7 := s9 _ _ e7
      have e8 := s9 _ _ e8
      have el := s9 _ _ el
      refine ⟨(by show 4 ≤ sizeLine; decide), fun l1 n_l1 => ?_⟩
      have s10 : Same H9 (upd H9 l1 (.lst [V.ref t6, V.ref t7, V.ref t8, V.ref t9])) := Same.new n_l1
      have en : upd H9 l1 (.lst [V.ref t6, V.ref t7, V.ref t8, V.ref t9]) l1 = some (.lst [V.ref t6, V.ref t7, V.ref t8, V.ref t9]) := upd_same
      generalize upd H9 l1 (.lst [V.ref t6, V.ref t7, V.ref t8, V.ref t9]) = H10 at s10 en ⊢
      have ha10 := s10 _ _ ha9
      have hd10 := s10 _ _ hd9
      have e1 := s10 _ _ e1
      have e2 := s10 _ _ e2
      have e3 := s10 _ _ e3
      have e4 := s10 _ _ e4
      have e6 := s10 _ _ e6
      have e7 := s10 _ _ e7
      have e8 := s10 _ _ e8
      have e9 := s10 _ _ e9
      have el := s10 _ _ el
      refine ⟨l0, l1, _, _, rfl, rfl, el, en, (by show 8 ≤ sizeLine; decide), fun c1 n_c1 => ?_⟩
      have s11 : Same H10 (upd H10 c1 (.lst ([V.ref t1, V.ref t2, V.ref t3, V.ref t4] ++ [V.ref t6, V.ref t7, V.ref t8, V.ref t9]))) := Same.new n_c1
      have el : upd H10 c1 (.lst ([V.ref t1, V.ref t2, V.ref t3, V.ref t4] ++ [V.ref t6, V.ref t7, V.ref t8, V.ref t9])) c1 = some (.lst [V.ref t1, V.ref t2, V.ref t3, V.ref t4, V.ref t6, V.ref t7, V.ref t8, V.ref t9]) := upd_same
      generalize upd H10 c1 (.lst ([V.ref t1, V.ref t2, V.ref t3, V.ref t4] ++ [V.ref t6, V.ref t7, V.ref t8, V.ref t9])) = H11 at s11 el ⊢
      have ha11 := s11 _ _ ha10
      have hd11 := s11 _ _ hd10
      have e1 := s11 _ _ e1
      have e2 := s11 _ _ e2
      have e3 := s11 _ _ e3
      have e4 := s11 _ _ e4
      have e6 := s11 _ _ e6
      have e7 := s11 _ _ e7
      have e8 := s11 _ _ e8
      have e9 := s11 _ _ e9
      refine ⟨_, rfl, ?_⟩
      refine ⟨_, rfl, a, _, dd, _, _, true, rfl, ha11, hd11, hP.ex, kt, two, fun t12 n12 => ?_⟩
      have s12 : Same H11 (upd H11 t12 (.tup [.str "paper", .bl true])) := Same.new n12
      have e12 : upd H11 t12 (.tup [.str "paper", .bl true]) t12 = some (.tup [.str "paper", .bl true]) := upd_same
      generalize upd H11 t12 (.tup [.str "paper", .bl true]) = H12 at s12 e12 ⊢
      have ha12 := s12 _ _ ha11
      have hd12 := s12 _ _ hd11
      have e1 := s12 _ _ e1
      have e2 := s12 _ _ e2
      have e3 := s12 _ _ e3
      have e4 := s12 _ _ e4
      have e6 := s12 _ _ e6
      have e7 := s12 _ _ e7
      have e8 := s12 _ _ e8
      have e9 := s12 _ _ e9
      have el := s12 _ _ el
      refine ⟨_, rfl, a, _, dd, _, _, false, rfl, ha12, hd12, hP.ex, kf "Misfit" (by decide +kernel) (by decide +kernel), two, fun t13 n13 => ?_⟩
      have s13 : Same H12 (upd H12 t13 (.tup [.str "misfit", .bl false])) := Same.new n13
      have e13 : upd H12 t13 (.tup [.str "misfit", .bl false]) t13 = some (.tup [.str "misfit", .bl false]) := upd_same
      generalize upd H12 t13 (.tup [.str "misfit", .bl false]) = H13 at s13 e13 ⊢
      have ha13 := s13 _ _ ha12
      have hd13 := s13 _ _ hd12
      have e1 := s13 _ _ e1
      have e2 := s13 _ _ e2
      have e3 := s13 _ _ e3
      have e4 := s13 _ _ e4
      have e6 := s13 _ _ e6
      have e7 := s13 _ _ e7
      have e8 := s13 _ _ e8
      have e9 := s13 _ _ e9
      have e12 := s13 _ _ e12
      have el := s13 _ _ el
      refine ⟨(by show 2 ≤ sizeLine; decide), fun l2 n_l2 => ?_⟩
      have s14 : Same H13 (upd H13 l2 (.lst [V.ref t12, V.ref t13])) := Same.new n_l2
      have en : upd H13 l2 (.lst [V.ref t12, V.ref t13]) l2 = some (.lst [V.ref t12, V.ref t13]) := upd_same
      generalize upd H13 l2 (.lst [V.ref t12, V.ref t13]) = H14 at s14 en ⊢
      have ha14 := s14 _ _ ha13
      have hd14 := s14 _ _ hd13
      have e1 := s14 _ _ e1
      have e2 := s14 _ _ e2
      have e3 := s14 _ _ e3
      have e4 := s14 _ _ e4
      have e6 := s14 _ _ e6
      have e7 := s14 _ _ e7
      have e8 := s14 _ _ e8
      have e9 := s14 _ _ e9
      have e12 := s14 _ _ e12
      have e13 := s14 _ _ e13
      have el := s14 _ _ el
      refine ⟨c1, l2, _, _, rfl, rfl, el, en, (by show 10 ≤ sizeLine; decide), fun c2 n_c2 => ?_⟩
      have s15 : Same H14 (upd H14 c2 (.lst ([V.ref t1, V.ref t2, V.ref t3, V.ref t4, V.ref t6, V.ref t7, V.ref t8, V.ref t9] ++ [V.ref t12, V.ref t13]))) := Same.new n_c2
      have el : upd H14 c2 (.lst ([V.ref t1, V.ref t2, V.ref t3, V.ref t4, V.ref t6, V.ref t7, V.ref t8, V.ref t9] ++ [V.ref t12, V.ref t13])) c2 = some (.lst [V.ref t1, V.ref t2, V.ref t3, V.ref t4, V.ref t6, V.ref t7, V.ref t8, V.ref t9, V.ref t12, V.ref t13]) := upd_same
      generalize upd H14 c2 (.lst ([V.ref t1, V.ref t2, V.ref t3, V.ref t4, V.ref t6, V.ref t7, V.ref t8, V.ref t9] ++ [V.ref t12, V.ref t13])) = H15 at s15 el ⊢
      have ha15 := s15 _ _ ha14
      have hd15 := s15 _ _ hd14
      have e1 := s15 _ _ e1
      have e2 := s15 _ _ e2
      have e3 := s15 _ _ e3
      have e4 := s15 _ _ e4
      have e6 := s15 _ _ e6
      have e7 := s15 _ _ e7
      have e8 := s15 _ _ e8
      have e9 := s15 _ _ e9
      have e12 := s15 _ _ e12
      have e13 := s15 _ _ e13
      refine ⟨_, rfl, ?_⟩
      have sA : Same H' H15 := (((((((((((((((s0.trans s1).trans s2).trans s3).trans s4).trans s5).trans s6).trans s7).trans s8).trans s9).trans s10).trans s11).trans s12).trans s13).trans s14).trans s15)
      have pb : PairsB H15 [t1, t2, t3, t4, t6, t7, t8, t9, t12, t13] (kinds true) := ⟨e1, e2, e3, e4, e6, e7, e8, e9, e12, e13, trivial⟩
      have el : H15 c2 = some (.lst (([t1, t2, t3, t4, t6, t7, t8, t9, t12, t13] : List Addr).map V.ref)) := el
      clear e1 e2 e3 e4 e6 e7 e8 e9 e12 e13
      generalize H15 = G at sA pb el ha15 hd15 ⊢
      generalize hts : ([t1, t2, t3, t4, t6, t7, t8, t9, t12, t13] : List Addr) = ts at pb el
      have hl : ts.length = 10 := by rw [← hts] <;> rfl
      refine ⟨c2, rfl, ⟨_, SqL.of el⟩, fun D nD => ?_⟩
      refine lc_list (K := X.K) (a := c2) (xs := ts.map V.ref) (fun i H' => Same G H' ∧ H' D = some (.lst (picked ((kinds true).take i)))) ⟨Same.new nD, upd_same⟩ (fun i H' _ h => SqL.of (h.1 _ _ el)) (fun i x H2 hx h2 => ?_) fun H2 h2 => ?_
      · obtain ⟨sG, hD⟩ := h2
        rw [List.getElem?_map] at hx
        cases et : ts[i]? with
        | none =>
          rw [et] at hx
          cases hx
        | some t =>
          rw [et] at hx
          obtain rfl : V.ref t = x := Option.some.inj hx
          obtain ⟨p, hp, ht⟩ := pb.at et
          have hi : i < 10 := by
            have := (List.getElem?_eq_some_iff.mp et).1
            omega
          refine ⟨t, _, rfl, SqT.of (sG _ _ ht), rfl, _, _, rfl, _, _, rfl, rfl, rfl, ?_⟩
          refine ⟨_, rfl, p.2, rfl, ?_⟩
          have st := picked_step (ps := kinds true) hp
          cases hb : p.2 with
          | false =>
            rw [hb, if_neg Bool.false_ne_true] at st
            refine iteF ⟨sG, ?_⟩
            rw [st]
            exact hD
          | true =>
            rw [hb, if_pos rfl] at st
            refine iteT ⟨_, rfl, _, hD, ?_, fun b o e => ?_, ?_⟩
            · have e1 : (picked ((kinds true).take i)).length ≤ 10 := by
                unfold picked
                rw [List.length_map]
                refine Nat.le_trans (List.length_filter_le _ _) ?_
                rw [List.length_take]
                omega
              exact Nat.lt_of_le_of_lt e1 (by decide)
            · rw [upd_ne (ne_of_none e nD)]
              exact sG b o e
            · rw [upd_same, st]
      · obtain ⟨sG, hD⟩ := h2
        rw [List.length_map, hl] at hD
        have hD : H2 D = some (.lst [V.str "paper"]) := hD
        refine ⟨_, rfl, D, _, rfl, .inl (SqL.of hD), rfl, _, rfl, iteT ?_⟩
        refine ⟨_, rfl, D, _, _, _, rfl, rfl, SqL.of hD, atI_nat (j := 0) rfl, ?_⟩
        refine ⟨_, rfl, a, _, dd, _, _, rfl, sG _ _ ha15, sG _ _ hd15, hP.xf, hP.no "part" (by decide +kernel), rfl, ?_⟩
        exact ⟨two, fun p np => k _ p ((sA.trans sG).trans (Same.new np)) ((sA.trans sG).free np) upd_same⟩
  · refine ⟨_, rfl, rfl, _, rfl, iteT ⟨_, rfl, (by show 1 ≤ sizeLine; decide), fun p np => k _ p (Same.new np) np upd_same⟩⟩
end
end K6
end
section -- KG5
set_option maxHeartbeats 1000000
/-! Texts that are bent: what is read of them; heaps whose tables grow; the def that catches, as it is handed a lambda. -/
namespace K6
open PySem PySem.Spec PyProof.Rows L2 NdefX LamX
/-! ### texts -/
theorem joinL_len (ys : List Str) : (TL.joinL [32] (ys.map TL.tl)).length ≤ chars ys := by
  have h : ∀ y : Str, (TL.tl y).length = y.length := fun y => (TL.len_tl y).symm
  induction ys with
  | nil => exact Nat.zero_le _
  | cons y r ih =>
    rw [chars_cons]
    cases r with
    | nil =>
      show (TL.tl y).length ≤ _
      rw [h]
      omega
    | cons z q =>
      show (TL.tl y ++ ([32] ++ TL.joinL [32] ((z :: q).map TL.tl))).length ≤ _
      rw [List.length_append, List.length_append, h]
      show y.length + (1 + _) ≤ _
      omega
theorem join_len (ys : List Str) : (Txt.join " " ys).length ≤ chars ys := by
  have e : TL.tl (Txt.join " " ys) = TL.joinL [32] (ys.map TL.tl) := by
    rw [TL.join_eq, TL.tl_join]
    rfl
  rw [TL.len_tl, e]
  exact joinL_len ys
theorem sum_chars (l : List Str) : (l.map (·.length)).sum + l.length * 1 = chars l := by
  induction l with
  | nil => rfl
  | cons a b ih =>
    rw [chars_cons, List.map_cons, List.sum_cons, List.length_cons]
    omega
theorem chars_mem {z : Str} : ∀ {ys : List Str}, z ∈ ys → z.length + 1 ≤ chars ys
  | [], m => by cases m
  | y :: r, m => by
    rw [chars_cons]
    rcases List.mem_cons.mp m with m | m
    · rw [m]
      omega
    · have := chars_mem m
      omega
theorem chars_take_drop (ws : List Str) (k : Nat) : chars (ws.take k) + chars (ws.drop k) = chars ws := by
  rw [← chars_app, List.take_append_drop]
theorem chars_drop_succ (ws : List Str) (k : Nat) : chars (ws.drop (k + 1)) ≤ chars (ws.drop k) := by
  rw [← List.drop_drop]
  have := chars_take_drop (ws.drop k) 1
  omega
section
variable {K : PySem.W.Frag} {H : Hp} {Q : VK} {E : XK} {z : Str} {ys : List Str}
theorem sp_read (hs : Txt.split z " " = ys) (hz : z.length + 2 ≤ sizeLine) (hc : chars ys + 10 ≤ sizeLine) (q : GotW K (pWhole ys) H Q E) : spRead K [.str z] H Q E := by
  refine ⟨.str z, .str z, rfl, .str z, rfl, fun z' e => ?_, fun h => absurd rfl (h z)⟩
  obtain rfl : z = z' := Dat.str.inj e
  rw [hs]
  refine ⟨hz, ⟨?_, fun y m => ?_⟩, q⟩
  · have := chars_len ys
    omega
  · have := chars_mem m
    omega
theorem sp_join (ne : ys ≠ []) (hb : ∀ z ∈ ys, 32 ∉ z.cps.toList) (hc : chars ys + 10 ≤ sizeLine) (q : GotW K (pWhole ys) H Q E) : spRead K [.str (Txt.join " " ys)] H Q E := by
  have := join_len ys
  exact sp_read (split_words ne hb) (by omega) hc q
end
/-! ### the words of a paper -/
structure PWs (ws : List Str) (c : Nat) (z : Str) (ds : List Dat) : Prop where
  e : ws = z :: Ws ds
  rd : (Dat.pap c z ds).rd
  dp : depS ds ≤ 20
theorem PWs.blank {ws : List Str} {c : Nat} {z : Str} {ds : List Dat} (h : PWs ws c z ds) : ∀ y ∈ ws, 32 ∉ y.cps.toList := fun y m => by
  refine W_blank (.pap c z ds) h.rd y ?_
  show y ∈ ("[" : Str) :: z :: (Ws ds ++ [("]" : Str)])
  rw [h.e] at m
  rcases List.mem_cons.mp m with m | m
  · rw [m]
    exact List.mem_cons_of_mem _ List.mem_cons_self
  · exact List.mem_cons_of_mem _ (List.mem_cons_of_mem _ (List.mem_append_left _ m))
theorem PWs.ok {ws : List Str} {c : Nat} {z : Str} {ds : List Dat} (h : PWs ws c z ds) : pWhole ws = .ok (.pap c z ds) := by
  rw [h.e]
  exact whole_ok h.rd h.dp
theorem PWs.pos {ws : List Str} {c : Nat} {z : Str} {ds : List Dat} (h : PWs ws c z ds) : 0 < ws.length := by
  rw [h.e]
  exact Nat.succ_pos _
def odds : List Str := ["Zz", "", "--", "007", "-0", "[ ", "toolongname", "1x"]
theorem odds_bad : ∀ o ∈ odds, o ≠ ("[ " : Str) → o ∉ marks ∧ isWr o = false ∧ isNm o = false ∧ counts.lookup o = none ∧ 32 ∉ o.cps.toList := by decide +kernel
theorem odd_bad {o : Str} (m : o ∈ odds) (n : o ≠ ("[ " : Str)) : badW o := by
  obtain ⟨h1, h2, h3, h4, _⟩ := odds_bad o m n
  exact ⟨h1, h2, h3, h4⟩
theorem odds_len : ∀ o ∈ odds, o.length ≤ 11 := by decide +kernel
/-- a word put in the place of another -/
def bend (ws : List Str) (k : Nat) (o : Str) : List Str := ws.take k ++ [o] ++ ws.drop (k + 1)
theorem bend_chars (ws : List Str) (k : Nat) (o : Str) : chars (bend ws k o) ≤ chars ws + o.length + 1 := by
  unfold bend
  rw [chars_app, chars_app, chars_cons]
  have h1 := chars_take_drop ws k
  have h2 := chars_drop_succ ws k
  show chars (ws.take k) + (o.length + 1 + 0) + _ ≤ _
  omega
theorem bend_ne {ws : List Str} {k : Nat} {o : Str} : bend ws k o ≠ [] := by
  unfold bend
  simp
theorem bend_mem {ws : List Str} {k : Nat} {o y : Str} (m : y ∈ bend ws k o) : y ∈ ws ∨ y = o := by
  unfold bend at m
  rcases List.mem_append.mp m with m | m
  · rcases List.mem_append.mp m with m | m
    · exact .inl (List.mem_of_mem_take m)
    · exact .inr (List.mem_singleton.mp m)
  · exact .inl (List.mem_of_mem_drop m)
theorem bend_err {ws : List Str} {c : Nat} {z : Str} {ds : List Dat} {k : Nat} {o : Str} (h : PWs ws c z ds) (hk : k < ws.length) (b : badW o) : pWhole (bend ws k o) = .error k := by
  have lt : (ws.take k).length = k := by rw [List.length_take]; omega
  have e0 : bend ws k o = ws.take k ++ o :: ws.drop (k + 1) := by
    unfold bend
    rw [List.append_assoc]
    rfl
  refine whole_bad h.ok ⟨fun i hi => ?_, ?_⟩ hk (.inr ⟨o, ?_, b⟩)
  · rw [e0, List.getElem?_append_left (by omega), List.getElem?_take_of_lt hi]
  · rw [e0, List.length_append, lt]
    omega
  · rw [e0, List.getElem?_append_right (by omega), lt, Nat.sub_self]
    rfl
theorem take_err {ws : List Str} {c : Nat} {z : Str} {ds : List Dat} {k : Nat} (h : PWs ws c z ds) (hk : k < ws.length) : pWhole (ws.take k) = .error k := by
  have lt : (ws.take k).length = k := by rw [List.length_take]; omega
  refine whole_bad h.ok ⟨fun i hi => List.getElem?_take_of_lt hi, by omega⟩ hk (.inl ?_)
  rw [List.getElem?_eq_none_iff]
  omega
theorem none_err : pWhole [("" : Str)] = .error 0 := by
  have e0 : counts.lookup ("" : Str) = none := by decide +kernel
  have e : pPaper [("" : Str)] (pItem [("" : Str)] 20) 0 = .error 0 := by
    unfold pPaper
    have e1 : [("" : Str)][0]? = some ("" : Str) := rfl
    rw [e1]
    simp only []
    rw [e0]
  unfold pWhole
  rw [e]
theorem split_none : Txt.split (Txt.join " " ([] : List Str)) " " = [("" : Str)] := by decide +kernel
/-! ### heaps whose tables grow -/
/-- all but what stands at x and the tables is as it was -/
def SameX (x : Addr) (H H' : Hp) : Prop := ∀ b o, b ≠ x → H b = some o → (∀ ps, o ≠ .tbl ps) → H' b = some o
theorem SameX.of {x : Addr} {H H' : Hp} (s : SameBut x H H') : SameX x H H' := fun b o hb e _ => s b o hb e
theorem SameX.ext {x : Addr} {H H' : Hp} (s : ExtN H H') : SameX x H H' := fun b o _ e n => s b o e n
theorem SameX.trans {x : Addr} {H H1 H2 : Hp} (a : SameX x H H1) (b : SameX x H1 H2) : SameX x H H2 := fun c o hc e n => b c o hc (a c o hc e n) n
theorem PenS.ext {H H' : Hp} {pn cl : Addr} {cells : List Int} {t r : Int} (h : PenS H pn cl cells t r) (s : ExtN H H') : PenS H' pn cl cells t r :=
  ⟨s _ _ h.hp (by intro ps z; cases z), s _ _ h.hc (by intro ps z; cases z), h.ne, h.n, h.t0⟩
theorem Tabs.pen {T : List (Addr × Str)} {H H' : Hp} {pn cl : Addr} {cells : List Int} {t r : Int} (h : Tabs T H) (S : PenS H pn cl cells t r) (s : SameBut pn H H') : Tabs T H' := fun p hp => by
  obtain ⟨ps, h1, h2, h3⟩ := h p hp
  refine ⟨ps, s _ _ (ne_of h1 S.hp (by intro z; cases z)) h1, h2, fun pos cv hc => ?_⟩
  obtain ⟨c, e1, e2⟩ := h3 pos cv hc
  exact ⟨c, e1, s _ _ (ne_of e2 S.hp (by unfold CodeO; intro z; cases z)) e2⟩
section
variable {ca : Nat → Addr} {fl : Flds} {H H' : Hp}
mutual
theorem Rp.ext (e : ExtN H H') : ∀ {v : V} {d : Dat}, Rp ca fl H v d → Rp ca fl H' v d
  | _, _, .non => .non
  | _, _, .bl b => .bl b
  | _, _, .int i => .int i
  | _, _, .str z => .str z
  | _, _, .emp h => .emp (e _ _ h (by intro ps z; cases z))
  | _, _, .tup h r => .tup (e _ _ h (by intro ps z; cases z)) (Rps.ext e r)
  | _, _, .lst h r => .lst (e _ _ h (by intro ps z; cases z)) (Rps.ext e r)
  | _, _, .pap h hw hp ht hf hm r => .pap (e _ _ h (by intro ps z; cases z)) hw hp (e _ _ ht (by intro ps z; cases z)) hf hm (Rps.ext e r)
theorem Rps.ext (e : ExtN H H') : ∀ {vs : List V} {ds : List Dat}, Rps ca fl H vs ds → Rps ca fl H' vs ds
  | _, _, .nil => .nil
  | _, _, .cons h r => .cons (Rp.ext e h) (Rps.ext e r)
end
end
/-! ### tuples as they are compared -/
section
variable {K : PySem.W.Frag} {H : Hp}
theorem dp_text {p : Addr} {i : Int} (h : H p = some (.tup [.str "text", .int 0, .int i])) : Dp K H (.ref p) (.tuple [.str "text", .int 0, .int i]) := .tup (SqT.of h) (.cons (.str _) (.cons (.int _) (.cons (.int _) .nil)))
theorem sh_text (i : Int) : SeqAt.shaped (.tuple [.str "text", .int 0, .int i]) = true := by
  show (PyData.canLay0 _ && decide (PyData.depth _ ≤ 64)) = true
  simp [PyData.canLay0, PyData.canLayAll0, PyData.depth, PyData.depthAll]
  decide +kernel
theorem eq_text (i : Int) : PyData.eqv (.tuple [.str "text", .int 0, .int i]) (.tuple [.str "text", .int 0, .int i]) = true := SeqAt.eqv_refl _ (SeqAt.canLay_of_shaped (sh_text i))
end
/-! ### the def that catches, handed a lambda -/
theorem getter_heard {X : Cx} (T : Txt X.w X.K X.mg) (hT : HdC X.K "BadText" ["line", "word"]) (hP : HdC X.K "BadPaper" ["part"]) {fd : FuncData} (F : FnT X.K "_law_at_heard" 90 fd) {q : Str} : Getter X "_law_at_heard" "ask" (He.ga X.K "_law_at_heard") NHd (defScope (top 90)) q (TTh X.K) := by
  have kp := F.kp
  have hb := F.bindsN (ps := ["ask"]) (fun _ _ _ _ _ _ us hl => match us, hl with | [_], _ => rfl)
  obtain ⟨oc, od, dV, kV, doc, pm, an, cdv, ct, osl, rfl, lk, hcd, _, _⟩ := F.ex
  exact ⟨⟨_, _, dV, kV, doc, pm, cdv, ct, oc, an, od, osl, lk, hcd, hb, heard_gives T hT hP⟩, kp, T.g _ (by decide +kernel), sc_heard, rfl, .inl rfl⟩
/-! ### a def whose code object is known -/
section
variable {P : Program} {w : World} {K : PySem.W.Frag} {mg : Str → Option Value} {base : Heap}
theorem fn_okC {x : Str} {i : Nat} {fd : FuncData} {c : Addr} (F : FnT K x i fd) (hc : fd.code = .ref c) {CX : CXT} {N ps : List Str} {k : Nat} {sp : Sp} (S : FnScope N ps (defScope (top i))) (len : ∀ vs H Q E, sp vs H Q E → vs.length = ps.length)
    (hbody : ∀ (A : Around) (outer : List Env) (s : Shared) (H : Hp) (vs : List V) (Q : VK) (E : XK), Room k (A.deeper (envOfC x (defScope (top i)) s.heap.objs.size (He.ga K x) (.ref c))) → sp vs H Q E →
      ∃ t, PSs (cxOf CX P w K mg base N x (defScope (top i)) (He.ga K x) (.ref c) A outer s H E) (defBody (top i)) t ∧ t { nx := fun _ H' => Q .non H', rt := Q } (L2.start N vs) H) : FnOk P w K mg base CX (k + 1) (He.ga K x) fd ps sp := by
  obtain ⟨oc, od, dV, kV, doc, pm, an, cdv, ct, osl, rfl, lk, hcd, _, _⟩ := F.ex
  have e : cdv = .ref c := hc
  subst e
  exact fn_of lk hcd S len hbody
end
end K6
end
section -- KG6
set_option maxHeartbeats 1000000
/-! _law_bent_right. -/
namespace K6
open PySem PySem.Spec PyProof.Rows L2 NdefX LamX
/-- the tables of the law's two makers of lambdas -/
structure TwoT (base : Heap) (mg : Str → Option Value) (cB PB cL PL : Addr) : Prop where
  b : TabB base mg cB PB
  l : TabB base mg cL PL
  ne : PB ≠ PL
def qB : Str := (("_law_bent_right" : Str) ++ ".<locals>.") ++ "<lambda>"
def qL : Str := (("law" : Str) ++ ".<locals>.") ++ "<lambda>"
abbrev T2 (PB PL : Addr) : List (Addr × Str) := [(PB, qB), (PL, qL)]
/-- the list of words with one in another's place -/
theorem bend_ok {K : PySem.W.Frag} {H : Hp} {σ : L2.St} {wl : Addr} {ws : List Str} {k : Nat} {o : Str} {i1 i3 : Nat} {te : TE} {Q : VK} (h1 : σ[i1]? = some (some (.ref wl))) (h3 : σ[i3]? = some (some (.int (k : Int)))) (he : ∀ (H : Hp) (Q : VK), Q (.str o) H → te σ H Q)
    (hw : H wl = some (.lst (ws.map V.str))) (hk : k < ws.length) (hc : chars ws + 40 ≤ sizeLine) (q : ∀ H' p, Same H H' → H p = none → H' p = some (.lst ((bend ws k o).map V.str)) → Q (.ref p) H') :
    tOp rCat (tOp rCat (tSl (rSlL K) (tVar i1) tNoPart (tPart (tVar i3))) (tLst (tCons te tNil))) (tSl (rSlL K) (tVar i1) (tPart (tOp (rI0 fun i j => .int (i + j)) (tVar i3) (tC (.int 1)))) tNoPart) σ H Q := by
  have hl := chars_len ws
  have e1 : cutV (ws.map V.str) none (some (k : Int)) = (ws.take k).map V.str := by
    unfold cutV
    rw [HT.sIx_none, HT.sIx_nat, List.drop_zero, Nat.sub_zero, List.length_map, Nat.min_eq_left (by omega), List.map_take]
  have e2 : cutV (ws.map V.str) (some ((k : Int) + 1)) none = (ws.drop (k + 1)).map V.str := by
    unfold cutV
    rw [HT.sIx_none, show (k : Int) + 1 = ((k + 1 : Nat) : Int) by omega, HT.sIx_nat, List.length_map, Nat.min_eq_left (by omega), List.map_drop]
    exact List.take_of_length_le (by rw [List.length_drop, List.length_map]; omega)
  have tl : (ws.take k).length = k := by rw [List.length_take]; omega
  have dl : (ws.drop (k + 1)).length = ws.length - (k + 1) := List.length_drop
  refine ⟨_, h1, _, h3, _, rfl, wl, _, rfl, SqL.of hw, fun p1 n1 => ?_⟩
  have s1 : Same H (upd H p1 (.lst (cutV (ws.map V.str) none (some (k : Int))))) := Same.new n1
  have x1 : upd H p1 (.lst (cutV (ws.map V.str) none (some (k : Int)))) p1 = some (.lst ((ws.take k).map V.str)) := by rw [upd_same, e1]
  generalize upd H p1 (.lst (cutV (ws.map V.str) none (some (k : Int)))) = H1 at s1 x1 ⊢
  refine he _ _ ⟨(by show 1 ≤ sizeLine; decide), fun p2 n2 => ?_⟩
  have s2 : Same H1 (upd H1 p2 (.lst [V.str o])) := Same.new n2
  have x2 : upd H1 p2 (.lst [V.str o]) p2 = some (.lst [V.str o]) := upd_same
  generalize upd H1 p2 (.lst [V.str o]) = H2 at s2 x2 ⊢
  refine ⟨p1, p2, _, _, rfl, rfl, s2 _ _ x1, x2, (by rw [List.length_map, tl]; show k + 1 ≤ sizeLine; omega), fun p3 n3 => ?_⟩
  have s3 : Same H2 (upd H2 p3 (.lst ((ws.take k).map V.str ++ [V.str o]))) := Same.new n3
  have x3 : upd H2 p3 (.lst ((ws.take k).map V.str ++ [V.str o])) p3 = some (.lst ((ws.take k).map V.str ++ [V.str o])) := upd_same
  generalize upd H2 p3 (.lst ((ws.take k).map V.str ++ [V.str o])) = H3 at s3 x3 ⊢
  have s13 := (s1.trans s2).trans s3
  refine ⟨_, h1, _, h3, _, _, rfl, rfl, _, rfl, wl, _, rfl, SqL.of (s13 _ _ hw), fun p4 n4 => ?_⟩
  have s4 : Same H3 (upd H3 p4 (.lst (cutV (ws.map V.str) (some ((k : Int) + 1)) none))) := Same.new n4
  have x4 : upd H3 p4 (.lst (cutV (ws.map V.str) (some ((k : Int) + 1)) none)) p4 = some (.lst ((ws.drop (k + 1)).map V.str)) := by rw [upd_same, e2]
  generalize upd H3 p4 (.lst (cutV (ws.map V.str) (some ((k : Int) + 1)) none)) = H4 at s4 x4 ⊢
  refine ⟨p3, p4, _, _, rfl, rfl, s4 _ _ x3, x4, (by rw [List.length_append, List.length_map, List.length_map, tl, dl]; show k + 1 + (ws.length - (k + 1)) ≤ sizeLine; omega), fun p5 n5 => ?_⟩
  refine q _ p5 ((s13.trans s4).trans (Same.new n5)) ((s13.trans s4).free n5) ?_
  rw [upd_same]
  unfold bend
  rw [List.map_append, List.map_append]
  rfl
section
variable {P : Program} {w : World} {K : PySem.W.Frag} {mg : Str → Option Value} {base : Heap}
def spBent (PB PL : Addr) : Sp := fun vs H Q _ => ∃ (pn cl : Addr) (cells : List Int) (t r : Int) (wl : Addr) (ws : List Str) (c : Nat) (z : Str) (ds : List Dat), vs = [.ref pn, .ref wl] ∧ PenS H pn cl cells t r ∧ t + 2 ≤ tMax ∧ H wl = some (.lst (ws.map V.str)) ∧ wl ≠ pn ∧ Tabs (T2 PB PL) H ∧ PWs ws c z ds ∧ chars ws + 40 ≤ sizeLine ∧
  ∀ (H' : Hp) (t' r' : Int), SameX pn H H' → Tabs (T2 PB PL) H' → PenS H' pn cl cells t' r' → t ≤ t' → t' ≤ t + 2 → Q (.bl true) H'
abbrev NB : List Str := ["pen", "words", "odd", "at", "bent"]
theorem sc_bent : FnScope NB ["pen", "words"] (defScope (top 93)) := ⟨rfl, rfl, rfl, by decide +kernel, rfl, by decide +kernel, by decide +kernel⟩
/-- what a refused text comes to -/
theorem heard_at {K : PySem.W.Frag} {H : Hp} {k : Nat} {Q : VK} (q : ∀ H2 p, Same H H2 → H2 p = some (.tup [.str "text", .int 0, .int (k : Int)]) → Q (.ref p) H2) : ErrW K H (HeardX K Q) k := fun H' x s hx =>
  .inl ⟨x, (k : Int), rfl, rfl, hx, fun H2 p s2 np e => q H2 p (s.trans s2) e⟩
theorem passL {X : Cx} {A : Around} {outer : List Env} {s : Shared} {H : Hp} {E : XK} {scope : Scope} {f c' : Addr} : Passes (L2.CX X.prog X.w) (lamCx X A outer s H E scope f c') E := passes_call (takes_of rfl rfl rfl rfl) (fun _ _ _ _ h => h)
/-- x(lambda: f(e, ..)) -/
theorem pe_lam0R {X : Cx} {T : List (Addr × Str)} {TT : (XK → Hp → VK → Prop) → Hp → VK → Prop} {x a : Str} {g c P : Addr} {k : Nat} {sg : Scope} {Ng : List Str} {params : Arguments} {body : Expr} {scope : Scope} {sp : Sp} {ta : TA} {p lpos pos : Pos}
    (G : Getter X x a g Ng sg (X.env.qual ++ "<lambda>") TT) (B : Tabled X T c P) (hr : Room (k + 2) X.A) (L : LamS X.env.scope scope)
    (hbody : ∀ (A : Around) (outer : List Env) (s : Shared) (H : Hp) (E : XK) (f c' : Addr), Room k (A.deeper (lamEnv X scope s.heap.objs.size f c')) → PE (lamCx X A outer s H E scope f c') body (tCall sp [] E ta))
    (hg : Gl X x := by rfl) (hdef : defaultsOf params X.env = ([], []) := by rfl)
    (hbind : ∀ (q : Str) (cl : List (Str × Addr)) (pm cv ctv : Value), bindArgs (PySem.W.kla_fn "<lambda>" q params body scope cl pm cv ctv) ⟨[], []⟩ = pure [] := by intros; rfl)
    (hdb : (x == ("__debug__" : Str)) = false := by decide) (hd : (a == ("__debug__" : Str)) = false := by decide) (hcd : (a == ("__classdict__" : Str)) = false := by decide) :
    PE X (.Call (.Name x p) [.Lambda params body scope lpos] [] pos) (tLam T TT fun E => tCall sp [] E ta) := pe_lam0S G B hr L hbody hg hdef hbind hdb hd hcd
theorem pe_joinK {X : Cx} {K : PySem.W.Frag} {o e : Expr} {to te : TE} {apos pos : Pos} (hK : X.K = K) (ho : PE X o to) (he : PE X e te) (hs : starEach [e] X.env = [(false, eval e X.env)] := by rfl) (hbase : attributeBase o "join" X.env (eval o X.env) = eval o X.env := by rfl) (hline : (apos.endLine == pos.line) = true := by rfl) :
    PE X (.Call (.Attribute o "join" apos) [e] [] pos) (tM1 (fun x xs H Q => ∃ a p, ∃ ys : List Str, x = .str a ∧ xs = [.ref p] ∧ (SqL K H p (ys.map V.str) ∨ SqT K H p (ys.map V.str)) ∧ (ys.map (·.length)).sum + ys.length * a.length ≤ 16777216 ∧ Q (.str (Txt.join a ys)) H) to te) := by
  subst hK
  exact pe_join ho he hs hbase hline
theorem sl_listK {X : Cx} {K : PySem.W.Frag} (hK : X.K = K) : SlR X (rSlL K) := by
  subst hK
  exact sl_list
theorem sp_take {K : PySem.W.Frag} {H : Hp} {Q : VK} {E : XK} {ws : List Str} {c : Nat} {z : Str} {ds : List Dat} {k : Nat} (pw : PWs ws c z ds) (hk : k < ws.length) (hc : chars ws + 40 ≤ sizeLine) (q : ErrW K H E k) : spRead K [.str (Txt.join " " (ws.take k))] H Q E := by
  have h1 := chars_take_drop ws k
  by_cases h0 : k = 0
  · subst h0
    refine sp_read (ys := [("" : Str)]) split_none (show (Txt.join " " ([] : List Str)).length + 2 ≤ sizeLine by decide +kernel) (by decide +kernel) ?_
    rw [none_err]
    exact q
  · refine sp_join (fun e => ?_) (fun y m => pw.blank y (List.mem_of_mem_take m)) (by omega) ?_
    · have := congrArg List.length e
      rw [List.length_take, List.length_nil] at this
      omega
    · rw [take_err pw hk]
      exact q
theorem sp_bend {K : PySem.W.Frag} {H : Hp} {Q : VK} {E : XK} {ws : List Str} {c : Nat} {z : Str} {ds : List Dat} {k : Nat} {o : Str} (pw : PWs ws c z ds) (hk : k < ws.length) (hc : chars ws + 40 ≤ sizeLine) (mo : o ∈ odds) (no : o ≠ ("[ " : Str)) (q : ErrW K H E k) : spRead K [.str (Txt.join " " (bend ws k o))] H Q E := by
  have h1 := bend_chars ws k o
  have h2 := odds_len o mo
  refine sp_join bend_ne (fun y m => ?_) (by omega) ?_
  · rcases bend_mem m with m | m
    · exact pw.blank y m
    · rw [m]
      exact (odds_bad o mo no).2.2.2.2
  · rw [bend_err pw hk (odd_bad mo no)]
    exact q
theorem sp_more {K : PySem.W.Frag} {H : Hp} {Q : VK} {E : XK} {ws : List Str} {c : Nat} {z : Str} {ds : List Dat} (pw : PWs ws c z ds) (hc : chars ws + 40 ≤ sizeLine) (q : ErrW K H E ws.length) : spRead K [.str (Txt.join " " (ws ++ [("0" : Str)]))] H Q E := by
  refine sp_join (by simp) (fun y m => ?_) ?_ ?_
  · rcases List.mem_append.mp m with m | m
    · exact pw.blank y m
    · rw [List.mem_singleton.mp m]
      decide +kernel
  · rw [chars_app, chars_cons]
    show chars ws + (1 + 1 + 0) + 10 ≤ sizeLine
    omega
  · rw [whole_more pw.ok]
    exact q
theorem bend_sum {ws : List Str} {k : Nat} {o : Str} (hc : chars ws + 40 ≤ sizeLine) (ol : o.length ≤ 11) : ((bend ws k o).map (·.length)).sum + (bend ws k o).length * 1 ≤ 16777216 := by
  rw [sum_chars]
  have h1 := bend_chars ws k o
  have e16 : sizeLine = 16777216 := sizeLine_eq
  omega
theorem if_at {σ : L2.St} {H : Hp} {Q : VK} {k : Nat} (h3 : σ[3]? = some (some (.int (k : Int)))) (q : Q (.int (k : Int)) H) : tIf (tTest (tOp (rI0 fun i j => .bl (decide (j < i))) (tVar 3) (tC (.int 0)))) (tVar 3) (tC (.int 0)) σ H Q := by
  refine ⟨_, h3, _, _, rfl, rfl, _, rfl, ?_⟩
  by_cases h0 : (0 : Int) < (k : Int)
  · rw [decide_eq_true h0]
    exact iteT ⟨_, h3, q⟩
  · rw [decide_eq_false h0]
    refine iteF ?_
    have e : (k : Int) = 0 := by omega
    rw [e] at q
    exact q
theorem d_bent (T : Txt w K mg) (hT : HdC K "BadText" ["line", "word"]) (hP : HdC K "BadPaper" ["part"]) {cB PB cL PL : Addr} (TT : TwoT base mg cB PB cL PL) {kr : Nat} (DR : Dfn P w K mg base (L2.CX P w) (kr + 2) "read_paper" ["text"] (spRead K))
    {fd0 fd1 fd2 fd : FuncData} (F0 : FnT K "_law_draw" 88 fd0) (F1 : FnT K "_law_pick" 89 fd1) (F2 : FnT K "_law_at_heard" 90 fd2) (F : FnT K "_law_bent_right" 93 fd) (hcd : fd.code = .ref cB) :
    Dfn P w K mg base CX0 (kr + 5) "_law_bent_right" ["pen", "words"] (spBent PB PL) := by
  refine dfn_mk F (T.g _ (by decide +kernel)) (fun _ _ _ _ _ _ us hl => match us, hl with | [_, _], _ => rfl) (fn_okC F hcd sc_bent (fun vs H Q E h => by obtain ⟨pn, cl, cells, t, r, wl, ws, c, z, ds, rfl, _⟩ := h; rfl) fun A outer s H vs Q E hr h => ?_)
  have DD := (d_draw (P := P) (base := base) T F0).mono (k' := kr + 4) (by omega)
  have DP := (d_pick (P := P) (base := base) T F0 F1).mono (k' := kr + 4) (by omega)
  have mL := T.z "len" (by decide +kernel)
  have ND := sc_bent.nd
  have hu := hr.units
  have G : Getter (cxOf CX0 P w K mg base NB "_law_bent_right" (defScope (top 93)) (He.ga K "_law_bent_right") (.ref cB) A outer s H E).nox "_law_at_heard" "ask" (He.ga K "_law_at_heard") NHd (defScope (top 90)) qB (TTh K) := getter_heard T hT hP F2
  have B : Tabled (cxOf CX0 P w K mg base NB "_law_bent_right" (defScope (top 93)) (He.ga K "_law_bent_right") (.ref cB) A outer s H E).nox (T2 PB PL) cB PB := ⟨TT.b, rfl, List.mem_cons_self, fun p hp e => by
    rcases List.mem_cons.mp hp with z | z
    · rw [z]
      rfl
    · exfalso
      rw [List.mem_singleton.mp z] at e
      exact TT.ne e.symm⟩
  refine ⟨_, PSs.nox (pss_cons (ps_set (i := 3) ND rfl (Or.inr rfl) (pe_d DD hr pass0 (pa_cons (pv 0) (pa_cons (pe_callB call_len_seq rfl mL PySem.boot_len (pa_cons (pv 1) pa_nil)) pa_nil))))
    (pss_cons (ps_set (i := 2) ND rfl (Or.inl rfl) (pe_d DP hr pass0 (pa_cons (pv 0) (pa_cons (pe_lst (pa_cons pe_str (pa_cons pe_str (pa_cons pe_str (pa_cons pe_str (pa_cons pe_str (pa_cons pe_str (pa_cons pe_str (pa_cons pe_str pa_nil))))))))) pa_nil))))
    (pss_cons (ps_set (i := 4) ND rfl (Or.inr rfl) (pe_op op_cat (pe_op op_cat (pe_slice sl_list (pv 1) po_none (po_some (pv 3))) (pe_lst (pa_cons (pv 2) pa_nil))) (pe_slice sl_list (pv 1) (po_some (pe_op op_add (pv 3) pe_int)) po_none)))
    (pss_cons (ps_if (pt_cmpR (op_neD hu) (pe_lam0R G B hr (lamS_by (sc := defScope (top 93)) (by decide +kernel)) (fun A outer s H E f c' hr2 => pe_d DR hr2 passL (pa_cons (pe_joinK (K := K) rfl pe_str (pe_op op_cat (pe_op op_cat (pe_slice (sl_listK (K := K) rfl) (pv 1) po_none (po_some (pv 3))) (pe_lst (pa_cons pe_str pa_nil))) (pe_slice (sl_listK (K := K) rfl) (pv 1) (po_some (pe_op op_add (pv 3) pe_int)) po_none))) pa_nil))) (pe_tup (pa_cons pe_str (pa_cons pe_int (pa_cons (pv 3) pa_nil)))) (nomark _)) pss_never pss_nil)
    (pss_cons (ps_if (PW.pt (pw_and (pt_cmpR op_ne (pv 2) pe_str (nomark _)) (pw_and1 (pt_cmpR (op_neD hu) (pe_lam0R G B hr (lamS_by (sc := defScope (top 93)) (by decide +kernel)) (fun A outer s H E f c' hr2 => pe_d DR hr2 passL (pa_cons (pe_joinK (K := K) rfl pe_str (pv 4)) pa_nil))) (pe_tup (pa_cons pe_str (pa_cons pe_int (pa_cons (pv 3) pa_nil)))) (nomark _))))) pss_never pss_nil)
    (pss_one (ps_ret (pe_and (pe_cmpR (op_eqD hu) (pe_lam0R G B hr (lamS_by (sc := defScope (top 93)) (by decide +kernel)) (fun A outer s H E f c' hr2 => pe_d DR hr2 passL (pa_cons (pe_joinK (K := K) rfl pe_str (pe_slice (sl_listK (K := K) rfl) (pv 1) po_none (po_some (pv 3)))) pa_nil))) (pe_tup (pa_cons pe_str (pa_cons pe_int (pa_cons (pe_ifExp (pt_cmpR op_gt (pv 3) pe_int (nomark _)) (pv 3) pe_int) pa_nil)))) (nomark _))
      (pe_one (pe_cmpR (op_eqD hu) (pe_lam0R G B hr (lamS_by (sc := defScope (top 93)) (by decide +kernel)) (fun A outer s H E f c' hr2 => pe_d DR hr2 passL (pa_cons (pe_joinK (K := K) rfl pe_str (pe_op op_cat (pv 1) (pe_lst (pa_cons pe_str pa_nil)))) pa_nil))) (pe_tup (pa_cons pe_str (pa_cons pe_int (pa_cons (pe_callB call_len_seq rfl mL PySem.boot_len (pa_cons (pv 1) pa_nil)) pa_nil)))) (nomark _))))))))))), ?_⟩
  obtain ⟨pn, cl, cells, t, r, wl, ws, c, z, ds, rfl, S, ht, hw, wp, tb, pw, hc, q⟩ := h
  have wl0 := chars_len ws
  have pos := pw.pos
  have e16 : sizeLine = 16777216 := sizeLine_eq
  refine ⟨_, rfl, _, rfl, wl, _, rfl, .inl (SqL.of hw), pn, cl, cells, t, r, _, rfl, S, (by omega), (by rw [List.length_map]; omega), (by rw [List.length_map]; omega), fun H1 v t1 r1 sb1 S1 l1 l2 v0 v1 => ?_⟩
  obtain ⟨k, rfl⟩ : ∃ k : Nat, v = k := ⟨v.toNat, by omega⟩
  have hk : k < ws.length := by
    rw [List.length_map] at v1
    omega
  have hw1 := sb1 _ _ wp hw
  have tb1 := Tabs.pen tb S sb1
  refine ⟨_, rfl, (by show 8 ≤ sizeLine; decide), fun p np => ?_⟩
  have sa : Same H1 (upd H1 p (.lst (odds.map V.str))) := Same.new np
  refine ⟨pn, cl, p, cells, t1, r1, odds.map V.str, rfl, S1.mono sa, (by omega), upd_same, (ne_of_none S1.hp np).symm, (by decide), (by decide), fun H2 i x t2 r2 sb2 S2 l3 l4 ei => ?_⟩
  obtain ⟨o, rfl, mo⟩ : ∃ o : Str, x = .str o ∧ o ∈ odds := by
    rw [List.getElem?_map] at ei
    cases e : odds[i]? with
    | none =>
      rw [e] at ei
      cases ei
    | some o =>
      rw [e] at ei
      exact ⟨o, (Option.some.inj ei).symm, List.mem_of_getElem? e⟩
  have ol := odds_len o mo
  have hw2 := sb2 _ _ wp (sa _ _ hw1)
  have tb2 := Tabs.pen (tb1.ext sa) (S1.mono sa) sb2
  have sx2 : SameX pn H H2 := ((SameX.of sb1).trans (SameX.of (Same.but sa))).trans (SameX.of sb2)
  refine bend_ok (K := K) (o := o) rfl rfl (fun H Q q => ⟨_, rfl, q⟩) hw2 hk hc fun H3 pb s3 n3 hb => ?_
  refine ⟨tb2.ext s3, fun H4 eN4 T4 H5 Q5 s45 k5 => ?_⟩
  have hw5 := s45 _ _ (eN4 _ _ (s3 _ _ hw2) (by intro ps z; cases z))
  refine ⟨⟨_, rfl⟩, ?_⟩
  refine bend_ok (K := K) (o := "Zz") rfl rfl (fun H Q q => q) hw5 hk hc fun H6 p6 s6 n6 h6 => ?_
  refine ⟨" ", p6, bend ws k "Zz", rfl, rfl, .inl (SqL.of h6), bend_sum hc (by decide +kernel), sp_bend pw hk hc (by decide +kernel) (by decide +kernel) (heard_at fun H7 p7 s7 e7 => ?_)⟩
  refine ⟨_, rfl, (by show 3 ≤ sizeLine; decide), fun p8 n8 => ?_⟩
  have s8 : Same H7 (upd H7 p8 (.tup [.str "text", .int 0, .int (k : Int)])) := Same.new n8
  refine ⟨_, _, dp_text (s8 _ _ e7), dp_text upd_same, sh_text _, sh_text _, _, rfl, ?_⟩
  rw [eq_text]
  refine iteF ?_
  generalize upd H7 p8 (.tup [.str "text", .int 0, .int (k : Int)]) = H8 at s8 ⊢
  have s58 := (s6.trans s7).trans s8
  have tb8 : Tabs (T2 PB PL) H8 := (T4.ext s45).ext s58
  have sx8 : SameX pn H2 H8 := ((SameX.of (Same.but s3)).trans (SameX.ext eN4)).trans (SameX.of (Same.but (s45.trans s58)))
  have S8 : PenS H8 pn cl cells t2 r2 := (((S2.mono s3).ext eN4).mono s45).mono s58
  have hb8 := s58 _ _ (s45 _ _ (eN4 _ _ hb (by intro ps z; cases z)))
  refine ⟨_, rfl, rfl, _, rfl, ?_⟩
  by_cases ho : o = ("[ " : Str)
  · rw [decide_eq_true (congrArg V.str ho)]
    refine iteF (iteF ?_)
    have tR := tb8
    have sxR := sx8
    have SR := S8
    generalize H8 = HR at tR sxR SR ⊢
    have sxR : SameX pn H HR := sx2.trans sxR
    have hwR := sxR _ _ wp hw (by intro ps z; cases z)
    refine ⟨tR, fun Ha eNa Ta Hb Qb sab kb => ?_⟩
    have hwb := sab _ _ (eNa _ _ hwR (by intro ps z; cases z))
    have SRb := (SR.ext eNa).mono sab
    refine ⟨⟨_, rfl⟩, _, rfl, _, rfl, _, rfl, wl, _, rfl, SqL.of hwb, fun p11 n11 => ?_⟩
    have e11 : upd Hb p11 (.lst (cutV (ws.map V.str) none (some (k : Int)))) p11 = some (.lst ((ws.take k).map V.str)) := by
      rw [upd_same]
      unfold cutV
      rw [HT.sIx_none, HT.sIx_nat, List.drop_zero, Nat.sub_zero, List.length_map, Nat.min_eq_left (by omega), List.map_take]
    have s11 : Same Hb (upd Hb p11 (.lst (cutV (ws.map V.str) none (some (k : Int))))) := Same.new n11
    generalize upd Hb p11 (.lst (cutV (ws.map V.str) none (some (k : Int)))) = Hc at e11 s11 ⊢
    refine ⟨" ", p11, ws.take k, rfl, rfl, .inl (SqL.of e11), ?_, sp_take pw hk hc (heard_at fun Hd pd sd ed => ?_)⟩
    · show ((ws.take k).map (·.length)).sum + (ws.take k).length * 1 ≤ 16777216
      rw [sum_chars]
      have := chars_take_drop ws k
      omega
    refine if_at rfl ⟨(by show 3 ≤ sizeLine; decide), fun pe ne => ?_⟩
    have se : Same Hd (upd Hd pe (.tup [.str "text", .int 0, .int (k : Int)])) := Same.new ne
    refine ⟨_, _, dp_text (se _ _ ed), dp_text upd_same, sh_text _, sh_text _, _, rfl, ?_⟩
    rw [eq_text]
    refine iteT ?_
    generalize upd Hd pe (.tup [.str "text", .int 0, .int (k : Int)]) = He at se ⊢
    have sbe : Same Hb He := (s11.trans sd).trans se
    have tE : Tabs (T2 PB PL) He := (Ta.ext sab).ext sbe
    refine ⟨tE, fun Hf eNf Tf Hg Qg sfg kg => ?_⟩
    have hwg := sfg _ _ (eNf _ _ (sbe _ _ hwb) (by intro ps z; cases z))
    have SRg := ((SRb.mono sbe).ext eNf).mono sfg
    refine ⟨⟨_, rfl⟩, _, rfl, (by show 1 ≤ sizeLine; decide), fun ph nh => ?_⟩
    have sh : Same Hg (upd Hg ph (.lst [V.str "0"])) := Same.new nh
    have eh : upd Hg ph (.lst [V.str "0"]) ph = some (.lst [V.str "0"]) := upd_same
    generalize upd Hg ph (.lst [V.str "0"]) = Hh at sh eh ⊢
    refine ⟨wl, ph, _, _, rfl, rfl, sh _ _ hwg, eh, (by rw [List.length_map]; show ws.length + 1 ≤ sizeLine; omega), fun pi ni => ?_⟩
    have si : Same Hh (upd Hh pi (.lst (ws.map V.str ++ [V.str "0"]))) := Same.new ni
    have ei : upd Hh pi (.lst (ws.map V.str ++ [V.str "0"])) pi = some (.lst ((ws ++ [("0" : Str)]).map V.str)) := by
      rw [upd_same, List.map_append]
      rfl
    generalize upd Hh pi (.lst (ws.map V.str ++ [V.str "0"])) = Hi at si ei ⊢
    refine ⟨" ", pi, ws ++ [("0" : Str)], rfl, rfl, .inl (SqL.of ei), ?_, sp_more pw hc (heard_at fun Hj pj sj ej => ?_)⟩
    · show ((ws ++ [("0" : Str)]).map (·.length)).sum + (ws ++ [("0" : Str)]).length * 1 ≤ 16777216
      rw [sum_chars, chars_app, chars_cons]
      show chars ws + (1 + 1 + 0) ≤ 16777216
      omega
    have sgj : Same Hg Hj := (sh.trans si).trans sj
    have lm : ((ws.map V.str).length : Int) = (ws.length : Int) := by rw [List.length_map]
    refine ⟨_, rfl, wl, _, rfl, .inl (SqL.of (sgj _ _ hwg)), (by show 3 ≤ sizeLine; decide), fun pk nk => ?_⟩
    rw [lm]
    have sk : Same Hj (upd Hj pk (.tup [.str "text", .int 0, .int (ws.length : Int)])) := Same.new nk
    refine ⟨_, _, dp_text (sk _ _ ej), dp_text upd_same, sh_text _, sh_text _, ?_⟩
    rw [eq_text]
    have sgk := sgj.trans sk
    exact q _ t2 r2 ((((sxR.trans (SameX.ext eNa)).trans (SameX.of (Same.but (sab.trans sbe)))).trans (SameX.ext eNf)).trans (SameX.of (Same.but (sfg.trans sgk)))) ((Tf.ext sfg).ext sgk) (SRg.mono sgk) (by omega) (by omega)
  · rw [decide_eq_false (fun z => ho (V.str.inj z))]
    refine iteT ⟨tb8, fun H9 eN9 T9 Hx Qx s9x kx => ?_⟩
    have hbx := s9x _ _ (eN9 _ _ hb8 (by intro ps z; cases z))
    refine ⟨⟨_, rfl⟩, _, rfl, " ", pb, bend ws k o, rfl, rfl, .inl (SqL.of hbx), bend_sum hc ol, sp_bend pw hk hc mo ho (heard_at fun Hy py sy ey => ?_)⟩
    refine ⟨_, rfl, (by show 3 ≤ sizeLine; decide), fun pz nz => ?_⟩
    have sz : Same Hy (upd Hy pz (.tup [.str "text", .int 0, .int (k : Int)])) := Same.new nz
    refine ⟨_, _, dp_text (sz _ _ ey), dp_text upd_same, sh_text _, sh_text _, _, rfl, ?_⟩
    rw [eq_text]
    refine iteF ?_
    generalize upd Hy pz (.tup [.str "text", .int 0, .int (k : Int)]) = Hz at sz ⊢
    have sxz := sy.trans sz
    have tR : Tabs (T2 PB PL) Hz := (T9.ext s9x).ext sxz
    have sxR : SameX pn H2 Hz := (sx8.trans (SameX.ext eN9)).trans (SameX.of (Same.but (s9x.trans sxz)))
    have SR : PenS Hz pn cl cells t2 r2 := ((S8.ext eN9).mono s9x).mono sxz
    generalize Hz = HR at tR sxR SR ⊢
    have sxR : SameX pn H HR := sx2.trans sxR
    have hwR := sxR _ _ wp hw (by intro ps z; cases z)
    refine ⟨tR, fun Ha eNa Ta Hb Qb sab kb => ?_⟩
    have hwb := sab _ _ (eNa _ _ hwR (by intro ps z; cases z))
    have SRb := (SR.ext eNa).mono sab
    refine ⟨⟨_, rfl⟩, _, rfl, _, rfl, _, rfl, wl, _, rfl, SqL.of hwb, fun p11 n11 => ?_⟩
    have e11 : upd Hb p11 (.lst (cutV (ws.map V.str) none (some (k : Int)))) p11 = some (.lst ((ws.take k).map V.str)) := by
      rw [upd_same]
      unfold cutV
      rw [HT.sIx_none, HT.sIx_nat, List.drop_zero, Nat.sub_zero, List.length_map, Nat.min_eq_left (by omega), List.map_take]
    have s11 : Same Hb (upd Hb p11 (.lst (cutV (ws.map V.str) none (some (k : Int))))) := Same.new n11
    generalize upd Hb p11 (.lst (cutV (ws.map V.str) none (some (k : Int)))) = Hc at e11 s11 ⊢
    refine ⟨" ", p11, ws.take k, rfl, rfl, .inl (SqL.of e11), ?_, sp_take pw hk hc (heard_at fun Hd pd sd ed => ?_)⟩
    · show ((ws.take k).map (·.length)).sum + (ws.take k).length * 1 ≤ 16777216
      rw [sum_chars]
      have := chars_take_drop ws k
      omega
    refine if_at rfl ⟨(by show 3 ≤ sizeLine; decide), fun pe ne => ?_⟩
    have se : Same Hd (upd Hd pe (.tup [.str "text", .int 0, .int (k : Int)])) := Same.new ne
    refine ⟨_, _, dp_text (se _ _ ed), dp_text upd_same, sh_text _, sh_text _, _, rfl, ?_⟩
    rw [eq_text]
    refine iteT ?_
    generalize upd Hd pe (.tup [.str "text", .int 0, .int (k : Int)]) = He at se ⊢
    have sbe : Same Hb He := (s11.trans sd).trans se
    have tE : Tabs (T2 PB PL) He := (Ta.ext sab).ext sbe
    refine ⟨tE, fun Hf eNf Tf Hg Qg sfg kg => ?_⟩
    have hwg := sfg _ _ (eNf _ _ (sbe _ _ hwb) (by intro ps z; cases z))
    have SRg := ((SRb.mono sbe).ext eNf).mono sfg
    refine ⟨⟨_, rfl⟩, _, rfl, (by show 1 ≤ sizeLine; decide), fun ph nh => ?_⟩
    have sh : Same Hg (upd Hg ph (.lst [V.str "0"])) := Same.new nh
    have eh : upd Hg ph (.lst [V.str "0"]) ph = some (.lst [V.str "0"]) := upd_same
    generalize upd Hg ph (.lst [V.str "0"]) = Hh at sh eh ⊢
    refine ⟨wl, ph, _, _, rfl, rfl, sh _ _ hwg, eh, (by rw [List.length_map]; show ws.length + 1 ≤ sizeLine; omega), fun pi ni => ?_⟩
    have si : Same Hh (upd Hh pi (.lst (ws.map V.str ++ [V.str "0"]))) := Same.new ni
    have ei : upd Hh pi (.lst (ws.map V.str ++ [V.str "0"])) pi = some (.lst ((ws ++ [("0" : Str)]).map V.str)) := by
      rw [upd_same, List.map_append]
      rfl
    generalize upd Hh pi (.lst (ws.map V.str ++ [V.str "0"])) = Hi at si ei ⊢
    refine ⟨" ", pi, ws ++ [("0" : Str)], rfl, rfl, .inl (SqL.of ei), ?_, sp_more pw hc (heard_at fun Hj pj sj ej => ?_)⟩
    · show ((ws ++ [("0" : Str)]).map (·.length)).sum + (ws ++ [("0" : Str)]).length * 1 ≤ 16777216
      rw [sum_chars, chars_app, chars_cons]
      show chars ws + (1 + 1 + 0) ≤ 16777216
      omega
    have sgj : Same Hg Hj := (sh.trans si).trans sj
    have lm : ((ws.map V.str).length : Int) = (ws.length : Int) := by rw [List.length_map]
    refine ⟨_, rfl, wl, _, rfl, .inl (SqL.of (sgj _ _ hwg)), (by show 3 ≤ sizeLine; decide), fun pk nk => ?_⟩
    rw [lm]
    have sk : Same Hj (upd Hj pk (.tup [.str "text", .int 0, .int (ws.length : Int)])) := Same.new nk
    refine ⟨_, _, dp_text (sk _ _ ej), dp_text upd_same, sh_text _, sh_text _, ?_⟩
    rw [eq_text]
    have sgk := sgj.trans sk
    exact q _ t2 r2 ((((sxR.trans (SameX.ext eNa)).trans (SameX.of (Same.but (sab.trans sbe)))).trans (SameX.ext eNf)).trans (SameX.of (Same.but (sfg.trans sgk)))) ((Tf.ext sfg).ext sgk) (SRg.mono sgk) (by omega) (by omega)
end
end K6
end
section -- KL0
set_option maxHeartbeats 1000000
/-! The law's own body: what it leans on; what can be read has a text. -/
namespace K6
open PySem PySem.Spec PyProof.Rows L2 NdefX LamX
/-! ### what can be read has a text -/
theorem digits_lt : ∀ l : List Nat, NumText.AllDigits l → NumText.digitsVal l < 10 ^ l.length
  | [], _ => by decide
  | c :: r, h => by
    have ih := digits_lt r fun x hx => h x (List.mem_cons_of_mem _ hx)
    have hc := h c List.mem_cons_self
    rw [val_cons, List.length_cons, Nat.pow_succ]
    have : (c - 48) * 10 ^ r.length ≤ 9 * 10 ^ r.length := Nat.mul_le_mul_right _ (by omega)
    omega
theorem wr_few {i : Int} (h : isWr (iStr i) = true) : (i.natAbs : Int) ≤ maxI := by
  have g : i.natAbs < 10 ^ 4000 := by
    have h : isWrL (iStr i).cps.toList = true := h
    obtain ⟨h1, h2, h3⟩ := wr_parts h
    have key : ∀ n : Nat, (TL.numL n).length ≤ 4000 → n < 10 ^ 4000 := fun n hl => by
      have h4 := digits_lt _ (TL.numL_digits n)
      rw [TL.numL_val] at h4
      exact Nat.lt_of_lt_of_le h4 (Nat.pow_le_pow_right (by decide) hl)
    rcases Int.lt_or_le i 0 with hneg | hpos
    · obtain ⟨n, rfl⟩ : ∃ n : Nat, i = -((n + 1 : Nat) : Int) := ⟨i.natAbs - 1, by omega⟩
      rw [tl_neg n] at h3
      have := key (n + 1) h3
      rw [Int.natAbs_neg, Int.natAbs_natCast]
      exact this
    · obtain ⟨n, rfl⟩ : ∃ n : Nat, i = (n : Int) := ⟨i.toNat, by omega⟩
      rw [tl_pos n, figs_dig (TL.numL_digits n)] at h3
      exact key n h3
  have h1 : ((10 ^ 4000 : Nat) : Int) - 1 = maxI := rfl
  generalize 10 ^ 4000 = a at g h1
  omega
mutual
theorem rd_text : ∀ (d : Dat) (n : Nat), d.rd → d.dep ≤ n → hasText n d = true
  | .non, n, _, _ => by cases n <;> rfl
  | .bl _, _, h, _ => h.elim
  | .int i, n, h, _ => by
    have e : hasFlat (.int i) = true := decide_eq_true (wr_few h.1)
    cases n <;> exact e
  | .str z, n, h, _ => by cases n <;> exact h
  | .emp, _, h, _ => h.elim
  | .lst _, _, h, _ => h.elim
  | .tup ds, n, h, hd => by
    have hd : depS ds + 1 ≤ n := hd
    obtain ⟨m, rfl⟩ : ∃ m, n = m + 1 := ⟨n - 1, by omega⟩
    exact rdS_text ds m h (by omega)
  | .pap c z ds, n, h, hd => by
    have hd : depS ds + 1 ≤ n := hd
    obtain ⟨m, rfl⟩ : ∃ m, n = m + 1 := ⟨n - 1, by omega⟩
    show (decide (counts.lookup z = some ds.length) && ds.all (hasText m)) = true
    rw [decide_eq_true h.1, rdS_text ds m h.2.2 (by omega)]
    rfl
theorem rdS_text : ∀ (ds : List Dat) (n : Nat), rdS ds → depS ds ≤ n → ds.all (hasText n) = true
  | [], _, _, _ => rfl
  | d :: r, n, h, hd => by
    have hd : max d.dep (depS r) ≤ n := hd
    rw [List.all_cons, rd_text d n h.1 (by omega), rdS_text r n h.2 (by omega)]
    rfl
end
theorem ptx_rd {c : Nat} {z : Str} {ds : List Dat} (h : (Dat.pap c z ds).rd) (hd : depS ds ≤ 20) : ptx (.pap c z ds) = .ok (txtW z ds) := by
  show (if counts.lookup z = some ds.length then (if hasText 21 (.pap c z ds) = true then .ok (txtW z ds) else .error "parts") else .error "paper" : Except Str Str) = _
  rw [if_pos h.1, if_pos (rd_text _ 21 h (by show depS ds + 1 ≤ 21; omega))]
/-! ### what is never raised -/
theorem passN {P : Program} {w : World} {X : Cx} : Passes (L2.CX P w) X (fun _ _ _ => False) := fun _ _ _ _ _ _ _ c => by
  obtain ⟨_, _, _, _, _, _, _, _, _, _, _, _, z⟩ := c
  exact z.elim
/-! ### the bag -/
/-- a keyword call's def -/
def KwOk (P : Program) (w : World) (K : PySem.W.Frag) (mg : Str → Option Value) (base : Heap) (kk : Nat) (x q : Str) (sp : Sp) : Prop :=
  ∃ fd, FnOk P w K mg base (L2.CX P w) kk (He.ga K x) fd [q] sp ∧ KBinds K fd [q] [q] (fun us ws => us ++ ws) (fun vs zs => vs ++ zs) ∧ PySem.W.keepIn K (.ref (He.ga K x)) = true ∧ mg x = some (.ref (He.ga K x))
theorem pe_kw {X : Cx} {kk : Nat} {x q : Str} {sp : Sp} {E : XK} {p pos : Pos} {tk : TA} {kws : List Keyword} (D : KwOk X.prog X.w X.K X.mg X.base kk x q sp) (hr : Room kk X.A) (hx : Passes (L2.CX X.prog X.w) X E) (hkw : PK X kws tk) (hg : Gl X x := by rfl)
    (hall : (backToKw pos (keywordEach kws X.env)).all (·.1.isSome) = true := by rfl) (hks : (backToKw pos (keywordEach kws X.env)).filterMap (·.1) = [q] := by rfl)
    (hdb : (x == ("__debug__" : Str)) = false := by decide) (hpl : ((backTo pos (starEach [] X.env)).any (·.1) || (backToKw pos (keywordEach kws X.env)).any (·.1.isNone)) = false := by rfl) :
    PE X (.Call (.Name x p) [] kws pos) (tCallK sp (fun vs zs => vs ++ zs) E tNil tk) := by
  obtain ⟨fd, F, kb, kp, m⟩ := D
  exact pe_callK0 F hr hg m kp kb hx hkw hall hks hdb hpl
structure LawD (P : Program) (w : World) (K : PySem.W.Frag) (mg : Str → Option Value) (base : Heap) (PB PL kk : Nat) : Prop where
  T : Txt w K mg
  hT : HdC K "BadText" ["line", "word"]
  hP : HdC K "BadPaper" ["part"]
  k8 : 8 ≤ kk
  DPn : Dfn P w K mg base CX0 kk "_law_pen" ["script"] (spPen K)
  DD : Dfn P w K mg base CX0 kk "_law_draw" ["pen", "many"] spDraw
  DP : Dfn P w K mg base CX0 kk "_law_pick" ["pen", "some"] spPick
  DC : Dfn P w K mg base CX0 kk "_law_counts" [] spCounts
  DV : Dfn P w K mg base CX0 kk "_law_value" ["pen", "deep"] (spVal 3)
  DB : Dfn P w K mg base CX0 (kk + 3) "_law_bent_right" ["pen", "words"] (spBent PB PL)
  DR : Dfn P w K mg base (L2.CX P w) kk "read_paper" ["text"] (spRead K)
  DT : Dfn P w K mg base (L2.CX P w) kk "paper_text" ["paper"] (spText K)
  KR : KwOk P w K mg base kk "read_paper" "text" (spRead K)
  KT : KwOk P w K mg base kk "paper_text" "paper" (spText K)
  N : NeT K
  E : ∃ fd, FnOk P w K mg base CX0 kk (He.ma K (ca K 0) "__eq__") fd ["self", "other"] (spEq (REq K 20)) ∧ Binds K fd ["self", "other"] []
  B : Bools P w K mg base
  MS : MkOk P w K mg base kk 20 20 "Sure" ["self", "rows"] "sure"
  ML : MkOk P w K mg base kk 20 11 "Lots" ["self", "least", "greatest"] "lots"
  FP : FnR P w K mg base CX0 kk (He.ma K (ca K 0) "__init__") (spPap K 20)
  M0 : Mk K (ca K 0) (He.ma K (ca K 0) "__init__")
  M1 : Mk K (ca K 1) (He.ma K (ca K 0) "__init__")
  kL : PySem.W.kitOne K (.ref (ca K 11)) (.ref (ca K 11)) = some true
  FH : ∃ fd, FnT K "_law_at_heard" 90 fd
/-- the names of the law's body -/
abbrev NL : List Str := ["script", "turn", "word", "many", "words", "paper", "one", "heard", "deep", "bad", "odd", "pen", "part"]
theorem sc_law : FnScope NL ["script"] (defScope (top 94)) := ⟨rfl, rfl, rfl, by decide +kernel, rfl, by decide +kernel, by decide +kernel⟩
/-- where the law's body stands -/
abbrev XL (P : Program) (w : World) (K : PySem.W.Frag) (mg : Str → Option Value) (base : Heap) (cL : Addr) (A : Around) (outer : List Env) (s : Shared) (H : Hp) (E : XK) : Cx := (cxOf CX0 P w K mg base NL "law" (defScope (top 94)) (He.ga K "law") (.ref cL) A outer s H E).nox
/-- the law's statements -/
abbrev lst_ (i : Nat) : Stmt := (defBody (top 94)).getD i (.Pass ⟨0, 0, 0, 0⟩)
theorem body_law : defBody (top 94) = [lst_ 0, lst_ 1, lst_ 2, lst_ 3, lst_ 4, lst_ 5, lst_ 6, lst_ 7, lst_ 8, lst_ 9, lst_ 10] := rfl
/-- a statement whose reading follows from a plainer one -/
theorem PS.by {X : Cx} {st : Stmt} {t t' : TS} (h : PS X st t) (k : ∀ D σ H, t' D σ H → t D σ H) : PS X st t' := ⟨fun pins s σ H D I q => h.run pins s σ H D I (k D σ H q)⟩
/-- the law's slots between its statements -/
abbrev sg (a pn : V) (x1 x2 x3 x4 x5 x6 x7 x8 x9 x10 x12 : Option V) : L2.St := [some a, x1, x2, x3, x4, x5, x6, x7, x8, x9, x10, some pn, x12]
end K6
end
section -- KL1
set_option maxHeartbeats 2000000
/-! The law's pen, its eight turns. -/
namespace K6
open PySem PySem.Spec PyProof.Rows L2 NdefX LamX
/-- the values of a paper drawn: as many lists of words as it has parts -/
theorem val_manyL {c : Nat} {H1 : Hp} {D pn cl : Addr} {cells : List Int} {t1 r1 : Int} {a : V} {x1 x2 x3 x4 x5 x6 x7 x8 x9 x10 x12 : Option V} {Qd : Hp → Prop} (nD : H1 D = none) (S1 : PenS H1 pn cl cells t1 r1) (hc : c ≤ 7) (ht : t1 + c * NV 3 ≤ tMax) (hz : 7 * SZ 3 + 100 ≤ sizeLine)
    (q : ∀ (H' : Hp) (ls : List Addr) (ds : List Dat) (t' r' : Int), SameBut pn H1 H' → H' D = some (.lst (ls.map V.ref)) → RowsAt H' ls (ds.map Dat.W) → PenS H' pn cl cells t' r' → t1 ≤ t' → t' ≤ t1 + c * NV 3 → ds.length = c → rdS ds → depS ds ≤ 3 → szS ds ≤ c * SZ 3 → Qd H') :
    ∃ W : Nat → Nat → Hp → Prop, (∃ m, W 0 m (upd H1 D (.lst []))) ∧ ∀ i k H, W i k H →
      ((Itr 0 c).stop i H ∧ Qd H) ∨ ((Itr 0 c).go i H ∧ ∃ Nx : Hp → Prop, (∀ H', Nx H' → ∃ m', m' < k ∧ W (i + 1) m' H') ∧ ∀ x H', (Itr 0 c).yld i H x H' → gName 12 x (wipe (sg a (.ref pn) x1 x2 x3 x4 x5 x6 x7 x8 x9 x10 x12) [12]) H' fun σ2 H2 => wipe σ2 [12] = wipe (sg a (.ref pn) x1 x2 x3 x4 x5 x6 x7 x8 x9 x10 x12) [12] ∧ tYes σ2 H2 fun bb H3 =>
        if bb = true then (tCall (spVal 3) [] E0 (tCons (tVar 11) (tCons (tC (.int 3)) tNil))) σ2 H3 fun y H4 => ∃ acc, H4 D = some (.lst acc) ∧ acc.length < sizeLine ∧ Nx (upd H4 D (.lst (acc ++ [y]))) else Nx H3) := by
  have nv := NV_pos 3
  have pD : pn ≠ D := ne_of_none S1.hp nD
  have cD : cl ≠ D := ne_of_none S1.hc nD
  refine lc_range (lo := 0) (n := c) (fun i H' => ∃ (ds : List Dat) (ls : List Addr) (t' r' : Int), ds.length = i ∧ H' D = some (.lst (ls.map V.ref)) ∧ D ∉ ls ∧ RowsAt H' ls (ds.map Dat.W) ∧ PenS H' pn cl cells t' r' ∧ t1 ≤ t' ∧ t' ≤ t1 + i * NV 3 ∧ rdS ds ∧ depS ds ≤ 3 ∧ szS ds ≤ i * SZ 3 ∧ SameBut pn H1 H')
    ⟨[], [], t1, r1, rfl, upd_same, List.not_mem_nil, trivial, ⟨by rw [upd_ne pD]; exact S1.hp, by rw [upd_ne cD]; exact S1.hc, S1.ne, S1.n, S1.t0⟩, Int.le_refl _, by simp, trivial, Nat.zero_le _, Nat.zero_le _, fun x o hb e2 => by rw [upd_ne (ne_of_none e2 nD)]; exact e2⟩ (fun i H' hi h => ?_) fun H' h => ?_
  · obtain ⟨ds, ls, t', r', hl, hD, nls, rw_, S2, l1, l2, h1, h2, h3, sb⟩ := h
    have e1 : ((i + 1 : Nat) : Int) * NV 3 = (i : Int) * NV 3 + NV 3 := by
      rw [Int.natCast_add, Int.add_mul]
      simp
    have e2 : ((i + 1 : Nat) : Int) * NV 3 ≤ (c : Int) * NV 3 := Int.mul_le_mul_of_nonneg_right (by omega) (by omega)
    have e3 : (i + 1) * SZ 3 = i * SZ 3 + SZ 3 := Nat.succ_mul _ _
    refine ⟨rfl, ?_⟩
    refine ⟨_, rfl, pn, cl, cells, t', r', rfl, S2, by omega, hz, fun H2 l d t2 r2 sb2 nl el S3 l3 l4 vd => ?_⟩
    have hD2 : H2 D = some (.lst (ls.map V.ref)) := sb2 _ _ pD.symm hD
    have Dl : l ≠ D := fun e => by
      rw [e, hD] at nl
      cases nl
    have ll : ls.length = i := by rw [rw_.len, List.length_map, hl]
    refine ⟨_, hD2, ?_, ds ++ [d], ls ++ [l], t2, r2, by rw [List.length_append, hl]; rfl, ?_, ?_, ?_, ?_, by omega, by omega, rdS_app h1 ⟨vd.rd, trivial⟩, ?_, ?_, fun x o hb e4 => ?_⟩
    · rw [List.length_map, ll]
      show i < sizeLine
      omega
    · rw [upd_same, List.map_append]
      rfl
    · intro z
      rcases List.mem_append.mp z with z | z
      · exact nls z
      · exact Dl (List.mem_singleton.mp z).symm
    · rw [List.map_append]
      refine RowsAt.snoc (RowsAt.updD nls (RowsAt.pen S2 sb2 rw_)) ?_
      rw [upd_ne Dl]
      exact el
    · exact ⟨by rw [upd_ne pD]; exact S3.hp, by rw [upd_ne cD]; exact S3.hc, S3.ne, S3.n, S3.t0⟩
    · rw [depS_app]
      refine Nat.max_le.mpr ⟨h2, ?_⟩
      show max d.dep 0 ≤ 3
      have := vd.dp
      omega
    · rw [szS_app]
      have h5 := vd.sz
      show szS ds + (d.sz + 0) ≤ (i + 1) * SZ 3
      omega
    · rw [upd_ne (ne_of_none e4 nD)]
      exact sb2 x o hb (sb x o hb e4)
  · obtain ⟨ds, ls, t', r', hl, hD, nls, rw_, S2, l1, l2, h1, h2, h3, sb⟩ := h
    exact q H' ls ds t' r' sb hD rw_ S2 l1 l2 hl h1 h2 h3
section
variable {P : Program} {w : World} {K : PySem.W.Frag} {mg : Str → Option Value} {base : Heap} {PB PL kk : Nat} {cL : Addr} {A : Around} {outer : List Env} {s : Shared} {H : Hp} {E : XK}
theorem st_0 (L : LawD P w K mg base PB PL kk) (hr : Room (kk + 3) (XL P w K mg base cL A outer s H E).A) : PS (XL P w K mg base cL A outer s H E) (lst_ 0) (fun D σ H => ∃ (a : Addr) (ns : List Int), σ = L2.start NL [.ref a] ∧ SqL K H a (ns.map V.int) ∧
    ∀ H' pn cl cells, Same H H' → PenS H' pn cl cells 0 0 → D.nx (sg (.ref a) (.ref pn) none none none none none none none none none none none) H') := by
  refine PS.by (ps_set (i := 11) sc_law.nd rfl (Or.inr rfl) (pe_d L.DPn (hr.mono (by omega)) pass0 (pa_cons (pv 0) pa_nil))) fun D σ H h => ?_
  obtain ⟨a, ns, rfl, hS, q⟩ := h
  exact ⟨_, rfl, a, ns, rfl, hS, fun H' pn cl cells s n1 n2 S => q H' pn cl cells s S⟩
end
end K6
end
section -- KL2
set_option maxHeartbeats 2000000
/-! The law's eight turns. -/
namespace K6
open PySem PySem.Spec PyProof.Rows L2 NdefX LamX
theorem val_finL {H' : Hp} {pa D : Addr} {ls : List Addr} {ds : List Dat} {z : Str} {Q : VK} (hp : H' pa = some (.lst [.str z])) (hD : H' D = some (.lst (ls.map V.ref))) (hr : RowsAt H' ls (ds.map Dat.W)) (hn : (Ws ds).length + 1 ≤ sizeLine)
    (q : ∀ H4 p, Same H' H4 → H' p = none → H4 p = some (.lst ((z :: Ws ds).map V.str)) → Q (.ref p) H4) :
    (([] : List V).length ≤ sizeLine ∧ ∀ y, H' y = none → rSumL [.ref D, .ref y] (upd H' y (.lst [])) fun y H2 => rCat (.ref pa) y H2 Q) := by
  refine ⟨Nat.zero_le _, fun y ny => ?_⟩
  have sy : Same H' (upd H' y (.lst [])) := Same.new ny
  refine ⟨D, y, ls, _, rfl, sy _ _ hD, upd_same, RowsAt.mono sy hr, ?_, fun H2 p s2 e2 => ?_⟩
  · rw [Ws_flat]
    omega
  rw [Ws_flat] at e2
  have s3 : Same H' H2 := sy.trans s2
  refine ⟨pa, p, _, _, rfl, rfl, s3 _ _ hp, e2, ?_, fun p2 np2 => ?_⟩
  · rw [List.length_map]
    show 1 + (Ws ds).length ≤ sizeLine
    omega
  exact q _ p2 (s3.trans (Same.new np2)) (s3.free np2) upd_same
section
variable {K : PySem.W.Frag} {H : Hp} {Q : VK} {E : XK} {ws : List Str} {c : Nat} {z : Str} {ds : List Dat} {v : V}
theorem sp_ok (pw : PWs ws c z ds) (hc : chars ws + 10 ≤ sizeLine) (q : ∀ H' v, Same H H' → RpK K H' v (.pap c z ds) → Q v H') : spRead K [.str (Txt.join " " ws)] H Q E := by
  refine sp_join (fun e => ?_) pw.blank hc ?_
  · have := pw.pos
    rw [e] at this
    cases this
  · rw [pw.ok]
    exact q
theorem sp_txt (h : (Dat.pap c z ds).rd) (hd : depS ds ≤ 20) (r : RpK K H v (.pap c z ds)) (hz : (Dat.pap c z ds).sz + 10 ≤ sizeLine) (q : ∀ H', Same H H' → Q (.str (txtW z ds)) H') : spText K [v] H Q E := by
  refine ⟨v, .pap c z ds, rfl, r, (rd_pl _ h).2, hz, ?_⟩
  rw [ptx_rd h hd]
  exact q
theorem like_rd (h : (Dat.pap c z ds).rd) (hd : depS ds ≤ 8) (hz : (Dat.pap c z ds).sz ≤ sizeLine) : LikeD 20 (.pap c z ds) := ⟨(rd_pl _ h).2, (rd_pl _ h).1, hz, by show 2 * (depS ds + 1) + 1 ≤ 20; omega⟩
end
section
variable {P : Program} {w : World} {K : PySem.W.Frag} {mg : Str → Option Value} {base : Heap} {PB PL kk : Nat} {cL : Addr} {A : Around} {outer : List Env} {s : Shared} {H : Hp} {E : XK}
theorem st_1 (L : LawD P w K mg base PB PL kk) (hr : Room (kk + 3) (XL P w K mg base cL A outer s H E).A) : PS (XL P w K mg base cL A outer s H E) (lst_ 1) (fun D σ H => ∃ (a pn cl : Addr) (cells : List Int) (r : Int) (x1 x2 x3 x4 x5 x6 x7 x8 x9 x10 x12 : Option V), σ = sg (.ref a) (.ref pn) x1 x2 x3 x4 x5 x6 x7 x8 x9 x10 x12 ∧ PenS H pn cl cells 0 r ∧ Tabs (T2 PB PL) H ∧
    ∀ (H' : Hp) (t' r' : Int) (y1 y2 y3 y4 y5 y12 : Option V), Tabs (T2 PB PL) H' → PenS H' pn cl cells t' r' → t' ≤ 120000 → D.nx (sg (.ref a) (.ref pn) y1 y2 y3 y4 y5 x6 x7 x8 x9 x10 y12) H') := by
  have T := L.T
  have ND := sc_law.nd
  have h1 := hr.mono (show kk ≤ kk + 3 by omega)
  have mR := T.z "range" (by decide +kernel)
  have mM := T.z "sum" (by decide +kernel)
  have mI := T.z "isinstance" (by decide +kernel)
  have mL := T.z "len" (by decide +kernel)
  have gP := T.g "Paper" (by decide +kernel)
  obtain ⟨fdE, FE, bE⟩ := L.E
  refine PS.by (ps_for PassesOwn.never rfl (pi_range1 rfl mR (pa_cons pe_int pa_nil)) (pg_name (i := 1) ND rfl (Or.inl rfl))
    (pss_cons (ps_asg (pe_ix ix_list (pe_d0 L.DC h1 pass0) (pe_d L.DD h1 pass0 (pa_cons (pv 11) (pa_cons pe_int pa_nil))) (fun _ _ => rfl)) (pg_tup rfl (pgs_cons (pg_name (i := 2) ND rfl (Or.inl rfl)) (pgs_cons (pg_name (i := 3) ND rfl (Or.inl rfl)) pgs_nil))))
    (pss_cons (ps_set (i := 4) ND rfl (Or.inl rfl) (pe_op op_cat (pe_lst (pa_cons (pv 2) pa_nil)) (pe_callB (cr_sumL rfl) rfl mM (by decide +kernel) (pa_cons (pe_lc (own := [("part", 12)]) (g := gName 12) (tt := tYes) rfl ND (pi_range1 rfl mR (pa_cons (pv 3) pa_nil)) (blkOk_by (own := [("part", 12)]) (N := NL) (sc := defScope (top 94)) (by decide +kernel))
      (fun _ _ _ _ _ => pg_name (i := 12) ND rfl (Or.inl rfl)) (fun _ _ _ _ _ => pts_nil) (fun _ _ _ _ _ => pe_d L.DV h1 pass0 (pa_cons (pv 11) (pa_cons pe_int pa_nil)))) (pa_cons (pe_lst pa_nil) pa_nil)))))
    (pss_cons (ps_set (i := 5) ND rfl (Or.inl rfl) (pe_d L.DR h1 passN (pa_cons (pe_join pe_str (pv 4)) pa_nil)))
    (pss_cons (ps_if (PW.pt (pw_or (pt_not (pt_val (pe_callB call_isi rfl mI (by decide +kernel) (pa_cons (pv 5) (pa_cons (pe_go gP) pa_nil)))))
      (pw_or (pt_cmpR op_ne (pe_fld (pv 5) rfl) (pv 2) (nomark _))
      (pw_or (pt_cmpR op_ne (pe_callB call_len_seq rfl mL PySem.boot_len (pa_cons (pe_fld (pv 5) rfl) pa_nil)) (pv 3) (nomark _))
      (pw_or (pt_cmpR op_ne (pe_d L.DT h1 passN (pa_cons (pv 5) pa_nil)) (pe_join pe_str (pv 4)) (nomark _))
      (pw_or1 (pt_cmpR (op_neG (rcN_pap T L.N FE bE) (hr.mono (by omega))) (pe_kw L.KR h1 passN (pk_cons (pe_kw L.KT h1 passN (pk_cons (pv 5) pk_nil)) pk_nil)) (pv 5) (nomark _)))))))) pss_never pss_nil)
    (pss_one (ps_if (pt_not (pt_val (pe_d L.DB hr pass0 (pa_cons (pv 11) (pa_cons (pv 4) pa_nil))))) pss_never pss_nil))))))) fun D σ H h => ?_
  obtain ⟨a, pn, cl, cells, r, x1, x2, x3, x4, x5, x6, x7, x8, x9, x10, x12, rfl, S, tb, q⟩ := h
  have nv : NV 3 = 1886 := by decide +kernel
  have sz3 : SZ 3 = 110900 := by decide +kernel
  have e16 : sizeLine = 16777216 := sizeLine_eq
  have et : tMax = 1048576 := rfl
  refine ⟨8, rfl, by decide, by decide, for_range (n := 8) (fun i σ H' => ∃ (y1 y2 y3 y4 y5 y12 : Option V) (t' r' : Int), σ = sg (.ref a) (.ref pn) y1 y2 y3 y4 y5 x6 x7 x8 x9 x10 y12 ∧ Tabs (T2 PB PL) H' ∧ PenS H' pn cl cells t' r' ∧ t' ≤ (i : Int) * 15000)
    ⟨x1, x2, x3, x4, x5, x12, 0, r, rfl, tb, S, by omega⟩ (fun i σ H0 hi h => ?_) fun σ H0 h => ?_⟩
  · obtain ⟨y1, y2, y3, y4, y5, y12, t0, r0, rfl, tb0, S0, ht0⟩ := h
    have t00 := S0.t0
    refine ⟨rfl, fun H2 lc ts sc nl el pr => ?_⟩
    have S2 := S0.mono sc
    refine ⟨_, rfl, pn, cl, cells, t0, r0, 22, rfl, S2, by omega, by decide, by decide, fun H3 v t3 r3 sb3 S3 l3 l4 v0 v1 => ?_⟩
    obtain ⟨k, rfl⟩ : ∃ k : Nat, v = k := ⟨v.toNat, by omega⟩
    have lcn : lc ≠ pn := fun e => by
      rw [e, S0.hp] at nl
      cases nl
    have lts : ts.length = 22 := pr.len
    obtain ⟨ta, eta⟩ : ∃ ta, ts[k]? = some ta := ⟨ts[k]'(by omega), List.getElem?_eq_getElem (by omega)⟩
    obtain ⟨⟨z, c⟩, ep, eT⟩ := PairsAt.at pr eta
    have et3 := sb3 _ _ (ne_of eT S2.hp fun z => by cases z) eT
    have el3 := sb3 _ _ lcn el
    have g1 : ∀ q ∈ counts, counts.lookup q.1 = some q.2 ∧ q.2 ≤ 7 ∧ q.1.length ≤ 8 := by decide +kernel
    obtain ⟨k1, k2, k3⟩ := g1 _ (List.mem_of_getElem? ep)
    have k1 : counts.lookup z = some c := k1
    have k2 : c ≤ 7 := k2
    have k3 : z.length ≤ 8 := k3
    have eat : (ts.map V.ref)[k]? = some (.ref ta) := by rw [List.getElem?_map, eta]; rfl
    refine ⟨lc, _, (k : Int), .ref ta, rfl, rfl, SqL.of el3, atI_nat eat, ta, _, rfl, SqT.of et3, rfl, _, _, rfl, _, _, rfl, rfl, ?_⟩
    have tb3 : Tabs (T2 PB PL) H3 := Tabs.pen (tb0.ext sc) S2 sb3
    refine ⟨_, rfl, (by show 1 ≤ sizeLine; decide), fun pa npa => ⟨_, rfl, (c : Int), rfl, by omega, by omega, fun D2 nD => ?_⟩⟩
    have sa : Same H3 (upd H3 pa (.lst [.str z])) := Same.new npa
    have ea : upd H3 pa (.lst [.str z]) pa = some (.lst [.str z]) := upd_same
    have pap : pa ≠ pn := (ne_of_none S3.hp npa).symm
    have S4 := S3.mono sa
    have tb4 := tb3.ext sa
    generalize upd H3 pa (.lst [.str z]) = H4 at *
    have cN : ((c : Int)).toNat = c := by omega
    rw [cN]
    have c7 : (c : Int) * NV 3 ≤ 7 * NV 3 := Int.mul_le_mul_of_nonneg_right (by omega) (by omega)
    have c8 : c * SZ 3 ≤ 7 * SZ 3 := Nat.mul_le_mul_right _ k2
    refine val_manyL nD S4 k2 (by omega) (by omega) fun H5 ls ds t5 r5 sb5 hD5 hr5 S5 l5 l6 hl5 h1_ h2_ h3_ => ?_
    have le1 := Ws_le ds
    have tb5 : Tabs (T2 PB PL) H5 := Tabs.pen tb4 S4 sb5
    refine val_finL (z := z) (sb5 _ _ pap ea) hD5 hr5 (by omega) fun H6 wl s6 np6 e6 => ?_
    have wp : wl ≠ pn := fun e => by
      rw [e, S5.hp] at np6
      cases np6
    have rd : (Dat.pap ((wnum z).getD 0) z ds).rd := ⟨by rw [k1, hl5], rfl, h1_⟩
    have pw : PWs (z :: Ws ds) ((wnum z).getD 0) z ds := ⟨rfl, rd, by omega⟩
    have ch : chars (z :: Ws ds) = z.length + 1 + szS ds := by rw [chars_cons, chars_Ws ds (rdS_pl ds h1_).1]
    have zl : (Dat.pap ((wnum z).getD 0) z ds).sz = 5 + z.length + szS ds := rfl
    have jsum : ((z :: Ws ds).map (·.length)).sum + (z :: Ws ds).length * 1 ≤ 16777216 := by
      rw [sum_chars]
      omega
    refine ⟨⟨_, rfl⟩, _, rfl, " ", wl, z :: Ws ds, rfl, rfl, .inl (SqL.of e6), jsum, sp_ok pw (by omega) fun H7 v s7 rv => ?_⟩
    have pc := T.p _ (wnum_lt k1).1
    have okc : (Dat.pap ((wnum z).getD 0) z ds).okc = true := okc_of (rd_pl _ rd).2
    refine ⟨_, rfl, _, _, _, _, _, rfl, .own _, ty_of T rv okc, kit_P T okc, _, rfl, iteF ?_⟩
    have rv0 := rv
    cases rv with
    | pap ha hw hp ht hf hm rs =>
      rename_i x dx tt fs vs
      refine ⟨_, rfl, _, _, _, _, _, rfl, ha, pc.cls, pc.noW, hw, _, rfl, rfl, _, rfl, ?_⟩
      rw [decide_eq_true rfl]
      refine iteF ⟨_, rfl, _, _, _, _, _, rfl, ha, pc.cls, pc.noP, hp, _, _, rfl, .inr (SqT.of ht), _, rfl, rfl, _, rfl, ?_⟩
      rw [decide_eq_true (show V.int (vs.length : Int) = V.int (c : Int) by rw [rs.len, hl5])]
      refine iteF ⟨_, rfl, sp_txt rd (by omega) rv0 (by omega) fun H8 s8 => ?_⟩
      have s68 := s7.trans s8
      refine ⟨⟨_, rfl⟩, _, rfl, " ", wl, z :: Ws ds, rfl, rfl, .inl (SqL.of (s68 _ _ e6)), jsum, rfl, _, rfl, ?_⟩
      rw [decide_eq_true (show V.str (txtW z ds) = V.str (Txt.join " " (z :: Ws ds)) from rfl)]
      refine iteF ⟨_, rfl, sp_txt rd (by omega) (rv0.mono s8) (by omega) fun H9 s9 => ?_⟩
      refine sp_ok pw (by omega) fun H10 v2 s10 rv2 => ?_
      obtain ⟨x2_, rfl⟩ : ∃ b, v2 = .ref b := by cases rv2; exact ⟨_, rfl⟩
      have s810 := s9.trans s10
      refine ⟨_, rfl, ⟨x2_, x, rfl, rfl, _, _, _, rv2, rv0.mono (s8.trans s810), like_rd rd (by omega) (by omega)⟩, fun H11 e11 => ⟨_, rfl, iteF ?_⟩⟩
      have s611 : Same H6 H11 := (s68.trans s810).trans e11
      refine ⟨_, rfl, _, rfl, pn, cl, cells, t5, r5, wl, z :: Ws ds, _, z, ds, rfl, (S5.mono s6).mono s611, by omega, s611 _ _ e6, wp, (tb5.ext s6).ext s611, pw, by omega, fun H12 t12 r12 sx12 tb12 S12 l12 l13 => ⟨_, rfl, iteF ?_⟩⟩
      refine ⟨_, _, _, _, _, y12, t12, r12, rfl, tb12, S12, ?_⟩
      have ei : ((i + 1 : Nat) : Int) * 15000 = (i : Int) * 15000 + 15000 := by omega
      omega
  · obtain ⟨y1, y2, y3, y4, y5, y12, t', r', rfl, tb', S', ht'⟩ := h
    exact q H0 t' r' y1 y2 y3 y4 y5 y12 tb' S' (by omega)
end
end K6
end
section -- KL3
set_option maxHeartbeats 2000000
/-! The law's written papers: made, told, read. -/
namespace K6
open PySem PySem.Spec PyProof.Rows L2 NdefX LamX
def dRow : Dat := .tup [.int 3, .tup [.int 0, .int 1], .int 0, .non]
def dSure : Dat := .pap 20 "sure" [.tup [dRow]]
def dsOne : List Dat := [.tup [.tup [.tup [.str "rail"], dSure]], .tup []]
theorem i_rd {i : Int} (h : i.natAbs < 10) : (Dat.int i).rd := (int_rd (k := 1) (by decide) (by decide) (by omega)).1
theorem row_rd : dRow.rd := ⟨i_rd (by decide), ⟨i_rd (by decide), i_rd (by decide), trivial⟩, i_rd (by decide), trivial, trivial⟩
theorem sure_rd : dSure.rd := ⟨by decide +kernel, by decide +kernel, ⟨row_rd, trivial⟩, trivial⟩
theorem one_rd : (Dat.pap 11 "lots" dsOne).rd := ⟨by decide +kernel, by decide +kernel, ⟨⟨⟨(by show isNm "rail" = true; decide +kernel), trivial⟩, sure_rd, trivial⟩, trivial⟩, trivial, trivial⟩
theorem one_txt : txtW "lots" dsOne = "lots ( ( ( rail ) [ sure ( ( 3 ( 0 1 ) 0 - ) ) ] ) ) ( )" := by decide +kernel
theorem one_sz : (Dat.pap 11 "lots" dsOne).sz + 10 ≤ sizeLine := by decide +kernel
theorem one_dp : depS dsOne ≤ 8 := by decide +kernel
section
variable {K : PySem.W.Frag} {H : Hp} {Q : VK} {E : XK} {ws : List Str} {c : Nat} {z lit : Str} {ds : List Dat} {v : V}
theorem sp_lit (e : lit = Txt.join " " ws) (pw : PWs ws c z ds) (hc : chars ws + 10 ≤ sizeLine) (q : ∀ H' v, Same H H' → RpK K H' v (.pap c z ds) → Q v H') : spRead K [.str lit] H Q E := by
  rw [e]
  exact sp_ok pw hc q
end
theorem pw_unsure : PWs ["unsure", "(", ")"] 22 "unsure" [.tup []] := ⟨rfl, ⟨by decide +kernel, by decide +kernel, trivial, trivial⟩, by decide +kernel⟩
theorem pw_sure : PWs ["sure", "(", ")"] 20 "sure" [.tup []] := ⟨rfl, ⟨by decide +kernel, by decide +kernel, trivial, trivial⟩, by decide +kernel⟩
theorem pw_lots : PWs ["lots", "(", ")", "(", ")"] 11 "lots" [.tup [], .tup []] := ⟨rfl, ⟨by decide +kernel, by decide +kernel, trivial, trivial, trivial⟩, by decide +kernel⟩
theorem pw_worth : PWs ["worth", "3", "(", ")", "-"] 23 "worth" [.int 3, .tup [], .non] := ⟨by decide +kernel, ⟨by decide +kernel, by decide +kernel, i_rd (by decide), trivial, trivial, trivial⟩, by decide +kernel⟩
section
variable {P : Program} {w : World} {K : PySem.W.Frag} {mg : Str → Option Value} {base : Heap} {PB PL kk : Nat} {cL : Addr} {A : Around} {outer : List Env} {s : Shared} {H : Hp} {E : XK}
theorem make_same {H : Hp} {x dx : Addr} {o : HO} (nx : H x = none) (ndx : H dx = none) (ne : dx ≠ x) : Same H (upd (upd H dx (.own x)) x o) := (Same.new ndx).trans (Same.new (by rw [upd_ne ne.symm]; exact nx))
theorem st_2 (L : LawD P w K mg base PB PL kk) (hr : Room (kk + 3) (XL P w K mg base cL A outer s H E).A) : PS (XL P w K mg base cL A outer s H E) (lst_ 2) (fun D σ H => ∃ (a pn : V) (x1 x2 x3 x4 x5 x6 x7 x8 x9 x10 x12 : Option V), σ = sg a pn x1 x2 x3 x4 x5 x6 x7 x8 x9 x10 x12 ∧
    ∀ (H' : Hp) (v : V), Same H H' → RpK K H' v (.pap 11 "lots" dsOne) → D.nx (sg a pn x1 x2 x3 x4 x5 (some v) x7 x8 x9 x10 x12) H') := by
  have ND := sc_law.nd
  have h2 := hr.mono (show kk + 1 ≤ kk + 3 by omega)
  refine PS.by (ps_set (i := 6) ND rfl (Or.inl rfl) (pe_mk L.ML h2 (pa_cons (pe_tup (pa_cons (pe_tup (pa_cons (pe_tup (pa_cons pe_str pa_nil)) (pa_cons (pe_mk L.MS h2 (pa_cons (pe_tup (pa_cons (pe_tup (pa_cons pe_int (pa_cons (pe_tup (pa_cons pe_int (pa_cons pe_int pa_nil))) (pa_cons pe_int (pa_cons pe_non pa_nil))))) pa_nil)) pa_nil)) pa_nil))) pa_nil)) (pa_cons (pe_lst pa_nil) pa_nil)))) fun D σ H h => ?_
  obtain ⟨a, pn, x1, x2, x3, x4, x5, x6, x7, x8, x9, x10, x12, rfl, q⟩ := h
  refine ⟨(by show 1 ≤ sizeLine; decide), fun p1 n1 => ?_⟩
  have s1 : Same H (upd H p1 (.tup [.str "rail"])) := Same.new n1
  have r1 : RpK K (upd H p1 (.tup [.str "rail"])) (.ref p1) (.tup [.str "rail"]) := .tup upd_same (.cons (.str _) .nil)
  generalize upd H p1 (.tup [.str "rail"]) = H1 at s1 r1 ⊢
  refine ⟨(by show 2 ≤ sizeLine; decide), fun p2 n2 => ?_⟩
  have s2 : Same H1 (upd H1 p2 (.tup [.int 0, .int 1])) := Same.new n2
  have r2 : RpK K (upd H1 p2 (.tup [.int 0, .int 1])) (.ref p2) (.tup [.int 0, .int 1]) := .tup upd_same (.cons (.int _) (.cons (.int _) .nil))
  generalize upd H1 p2 (.tup [.int 0, .int 1]) = H2 at s2 r2 ⊢
  refine ⟨(by show 4 ≤ sizeLine; decide), fun p3 n3 => ?_⟩
  have s3 : Same H2 (upd H2 p3 (.tup [.int 3, .ref p2, .int 0, .non])) := Same.new n3
  have r3 : RpK K (upd H2 p3 (.tup [.int 3, .ref p2, .int 0, .non])) (.ref p3) dRow := .tup upd_same (.cons (.int _) (.cons (r2.mono s3) (.cons (.int _) (.cons .non .nil))))
  generalize upd H2 p3 (.tup [.int 3, .ref p2, .int 0, .non]) = H3 at s3 r3 ⊢
  refine ⟨(by show 1 ≤ sizeLine; decide), fun p4 n4 => ?_⟩
  have s4 : Same H3 (upd H3 p4 (.tup [.ref p3])) := Same.new n4
  have r4 : RpK K (upd H3 p4 (.tup [.ref p3])) (.ref p4) (.tup [dRow]) := .tup upd_same (.cons (r3.mono s4) .nil)
  generalize upd H3 p4 (.tup [.ref p3]) = H4 at s4 r4 ⊢
  intro x dx nx ndx ne
  have sm : Same H4 (upd (upd H4 dx (.own x)) x (.ins (ca K 20) dx [])) := make_same nx ndx ne
  refine ⟨x, dx, [.ref p4], [.tup [dRow]], rfl, rfl, upd_same, (Rps.cons r4 .nil).mono sm, by decide +kernel, by decide +kernel, by decide +kernel, fun H5 sb r5 => ⟨rfl, ?_⟩⟩
  have s5 : Same H4 H5 := fun b o e => sb b o (ne_of_none e nx) (sm b o e)
  have r5 : RpK K H5 (.ref x) dSure := r5
  generalize V.ref x = v5 at r5 ⊢
  refine ⟨(by show 2 ≤ sizeLine; decide), fun p6 n6 => ?_⟩
  have s15 := ((s2.trans s3).trans s4).trans s5
  have s6 : Same H5 (upd H5 p6 (.tup [.ref p1, v5])) := Same.new n6
  have r6 : RpK K (upd H5 p6 (.tup [.ref p1, v5])) (.ref p6) (.tup [.tup [.str "rail"], dSure]) := .tup upd_same (.cons (r1.mono (s15.trans s6)) (.cons (r5.mono s6) .nil))
  generalize upd H5 p6 (.tup [.ref p1, v5]) = H6 at s6 r6 ⊢
  refine ⟨(by show 1 ≤ sizeLine; decide), fun p7 n7 => ?_⟩
  have s7 : Same H6 (upd H6 p7 (.tup [.ref p6])) := Same.new n7
  have r7 : RpK K (upd H6 p7 (.tup [.ref p6])) (.ref p7) (.tup [.tup [.tup [.str "rail"], dSure]]) := .tup upd_same (.cons (r6.mono s7) .nil)
  generalize upd H6 p7 (.tup [.ref p6]) = H7 at s7 r7 ⊢
  refine ⟨Nat.zero_le _, fun p8 n8 => ?_⟩
  have s8 : Same H7 (upd H7 p8 (.lst [])) := Same.new n8
  have r8 : RpK K (upd H7 p8 (.lst [])) (.ref p8) (.lst []) := .lst upd_same .nil
  generalize upd H7 p8 (.lst []) = H8 at s8 r8 ⊢
  intro y dy ny ndy ney
  have sn : Same H8 (upd (upd H8 dy (.own y)) y (.ins (ca K 11) dy [])) := make_same ny ndy ney
  refine ⟨y, dy, [.ref p7, .ref p8], [.tup [.tup [.tup [.str "rail"], dSure]], .lst []], rfl, rfl, upd_same, (Rps.cons (r7.mono s8) (.cons r8 .nil)).mono sn, by decide +kernel, by decide +kernel, by decide +kernel, fun H9 sb9 r9 => ⟨rfl, ?_⟩⟩
  have s9 : Same H8 H9 := fun b o e => sb9 b o (ne_of_none e ny) (sn b o e)
  exact q H9 (.ref y) ((((s1.trans s15).trans s6).trans s7).trans (s8.trans s9)) r9
theorem st_3 (L : LawD P w K mg base PB PL kk) (hr : Room (kk + 3) (XL P w K mg base cL A outer s H E).A) : PS (XL P w K mg base cL A outer s H E) (lst_ 3) (fun D σ H => ∃ (a pn v : V) (x1 x2 x3 x4 x5 x7 x8 x9 x10 x12 : Option V), σ = sg a pn x1 x2 x3 x4 x5 (some v) x7 x8 x9 x10 x12 ∧ RpK K H v (.pap 11 "lots" dsOne) ∧
    ∀ (H' : Hp), Same H H' → D.nx (sg a pn x1 x2 x3 x4 x5 (some v) x7 x8 x9 x10 x12) H') := by
  have T := L.T
  have k8 := L.k8
  have h1 := hr.mono (show kk ≤ kk + 3 by omega)
  have mB := T.z "bool" (by decide +kernel)
  obtain ⟨fdE, FE, bE⟩ := L.E
  refine PS.by (ps_if (PW.pt (pw_or (pt_cmpR op_ne (pe_d L.DT h1 passN (pa_cons (pv 6) pa_nil)) pe_str (nomark _))
    (pw_or (pt_cmpR (op_neG (rcN_pap T L.N FE bE) (hr.mono (by omega))) (pe_d L.DR h1 passN (pa_cons (pe_d L.DT h1 passN (pa_cons (pv 6) pa_nil)) pa_nil)) (pv 6) (nomark _))
    (pw_or (pt_val (pe_callTy (call_boolP T L.B (hr.mono (by omega))) rfl mB (by decide +kernel) (pa_cons (pe_d L.DR h1 passN (pa_cons pe_str pa_nil)) pa_nil)))
    (pw_or1 (pt_not (pt_tru (tru_P T L.B (hr.mono (by omega))) (pe_d L.DR h1 passN (pa_cons pe_str pa_nil))))))))) pss_never pss_nil) fun D σ H h => ?_
  obtain ⟨a, pn, v, x1, x2, x3, x4, x5, x7, x8, x9, x10, x12, rfl, rv, q⟩ := h
  have one_dp := one_dp
  refine ⟨_, rfl, sp_txt one_rd (by omega) rv one_sz fun H1 s1 => ?_⟩
  refine ⟨rfl, _, rfl, ?_⟩
  rw [decide_eq_true (congrArg V.str one_txt)]
  refine iteF ⟨_, rfl, sp_txt one_rd (by omega) (rv.mono s1) one_sz fun H2 s2 => ?_⟩
  refine sp_ok ⟨rfl, one_rd, by omega⟩ (by decide +kernel) fun H3 v3 s3 r3 => ?_
  have s13 := (s1.trans s2).trans s3
  have rv3 := rv.mono s13
  refine ⟨_, rfl, ?_⟩
  obtain ⟨b, rfl⟩ : ∃ b, v3 = .ref b := by cases r3; exact ⟨_, rfl⟩
  obtain ⟨x, rfl⟩ : ∃ b, v = .ref b := by cases rv; exact ⟨_, rfl⟩
  refine ⟨⟨b, x, rfl, rfl, _, _, _, r3, rv3, like_rd one_rd one_dp (by have := one_sz; omega)⟩, fun H4 s4 => ⟨_, rfl, iteF ?_⟩⟩
  refine sp_lit (by decide +kernel) pw_unsure (by decide +kernel) fun H5 v5 s5 r5 => ?_
  refine ⟨v5, _, _, _, rfl, r5, by decide, _, rfl, iteF ?_⟩
  refine sp_lit (by decide +kernel) pw_sure (by decide +kernel) fun H6 v6 s6 r6 => ?_
  refine ⟨_, _, _, r6, by decide, iteF ?_⟩
  exact q H6 (((s13.trans s4).trans s5).trans s6)
theorem st_4 (L : LawD P w K mg base PB PL kk) (hr : Room (kk + 3) (XL P w K mg base cL A outer s H E).A) : PS (XL P w K mg base cL A outer s H E) (lst_ 4) (fun D σ H => ∀ (H' : Hp), Same H H' → D.nx σ H') := by
  have T := L.T
  have h1 := hr.mono (show kk ≤ kk + 3 by omega)
  have hu := hr.units
  have mI := T.z "isinstance" (by decide +kernel)
  have gD := T.g "Denial" (by decide +kernel)
  have gL := T.g "Lots" (by decide +kernel)
  refine PS.by (ps_if (PW.pt (pw_or (pt_not (pt_val (pe_callB call_isi rfl mI (by decide +kernel) (pa_cons (pe_d L.DR h1 passN (pa_cons pe_str pa_nil)) (pa_cons (pe_go gD) pa_nil)))))
    (pw_or (pt_not (pt_val (pe_callB call_isi rfl mI (by decide +kernel) (pa_cons (pe_d L.DR h1 passN (pa_cons pe_str pa_nil)) (pa_cons (pe_go gL) pa_nil)))))
    (pw_or1 (pt_cmpR (op_neD hu) (pe_lst (pa_cons (pe_fld (pe_d L.DR h1 passN (pa_cons pe_str pa_nil)) rfl) (pa_cons (pe_fld (pe_d L.DR h1 passN (pa_cons pe_str pa_nil)) rfl) pa_nil))) (pe_lst (pa_cons pe_int (pa_cons pe_non pa_nil))) (nomark _)))))) pss_never pss_nil) fun D σ H q => ?_
  refine sp_lit (by decide +kernel) pw_unsure (by decide +kernel) fun H1 v1 s1 r1 => ?_
  refine ⟨_, _, _, _, _, rfl, .own _, ty_of T r1 (by decide), (T.p 22 (by decide)).kD, _, rfl, iteF ?_⟩
  refine sp_lit (by decide +kernel) pw_lots (by decide +kernel) fun H2 v2 s2 r2 => ?_
  refine ⟨_, _, _, _, _, rfl, .own _, ty_of T r2 (by decide), L.kL, _, rfl, iteF ?_⟩
  refine sp_lit (by decide +kernel) pw_worth (by decide +kernel) fun H3 v3 s3 r3 => ?_
  have pc := T.p 23 (by decide)
  cases r3 with
  | pap ha hw hp ht hf hm rs =>
    obtain ⟨u3, e3, l3⟩ := hf 0 "price" (by decide +kernel)
    obtain ⟨d3, e3d, rd3⟩ := rs.at e3
    obtain rfl : Dat.int 3 = d3 := Option.some.inj e3d
    cases rd3
    refine ⟨_, _, _, _, _, rfl, ha, pc.cls, pc.noF "price" (by decide +kernel), l3, ?_⟩
    refine sp_lit (by decide +kernel) pw_worth (by decide +kernel) fun H4 v4 s4 r4 => ?_
    cases r4 with
    | pap ha hw hp ht hf hm rs =>
      obtain ⟨u4, e4, l4⟩ := hf 2 "others" (by decide +kernel)
      obtain ⟨d4, e4d, rd4⟩ := rs.at e4
      obtain rfl : Dat.non = d4 := Option.some.inj e4d
      cases rd4
      refine ⟨_, _, _, _, _, rfl, ha, pc.cls, pc.noF "others" (by decide +kernel), l4, ?_⟩
      refine ⟨(by show 2 ≤ sizeLine; decide), fun p5 n5 => ⟨(by show 2 ≤ sizeLine; decide), fun p6 n6 => ?_⟩⟩
      have s5 : Same H4 (upd H4 p5 (.lst [.int 3, .non])) := Same.new n5
      have e5 : upd H4 p5 (.lst [.int 3, .non]) p5 = some (.lst [.int 3, .non]) := upd_same
      generalize upd H4 p5 (.lst [.int 3, .non]) = H5 at *
      have s6 : Same H5 (upd H5 p6 (.lst [.int 3, .non])) := Same.new n6
      have e6 : upd H5 p6 (.lst [.int 3, .non]) p6 = some (.lst [.int 3, .non]) := upd_same
      generalize upd H5 p6 (.lst [.int 3, .non]) = H6 at *
      have dp : ∀ {p : Addr}, H6 p = some (.lst [.int 3, .non]) → Dp K H6 (.ref p) (.list [.int 3, .none]) := fun e => .lst (SqL.of e) (.cons (.int _) (.cons .non .nil))
      refine ⟨_, _, dp (s6 _ _ e5), dp e6, by decide +kernel, by decide +kernel, _, rfl, ?_⟩
      rw [show PyData.eqv (.list [.int 3, .none]) (.list [.int 3, .none]) = true by decide +kernel]
      refine iteF ?_
      exact q H6 (((((s1.trans s2).trans s3).trans s4).trans s5).trans s6)
end
end K6
end
section -- KL4
set_option maxHeartbeats 2000000
/-! The law's odd and bad values. -/
namespace K6
open PySem PySem.Spec PyProof.Rows L2 NdefX LamX
section
variable {K : PySem.W.Frag} {H H' : Hp} {pn cl : Addr} {cells : List Int} {t r : Int}
mutual
/-- what holds no list does not see the pen change -/
theorem Rp.pen (S : PenS H pn cl cells t r) (sb : SameBut pn H H') : ∀ {v : V} {d : Dat}, d.nl = true → RpK K H v d → RpK K H' v d
  | _, _, _, .non => .non
  | _, _, _, .bl b => .bl b
  | _, _, _, .int i => .int i
  | _, _, _, .str z => .str z
  | _, _, _, .emp h => .emp (sb _ _ (ne_of h S.hp (by intro z; cases z)) h)
  | _, _, n, .tup h r => .tup (sb _ _ (ne_of h S.hp (by intro z; cases z)) h) (Rps.pen S sb n r)
  | _, _, n, .lst h r => by cases n
  | _, _, n, .pap h hw hp ht hf hm r => .pap (sb _ _ (ne_of h S.hp (by intro z; cases z)) h) hw hp (sb _ _ (ne_of ht S.hp (by intro z; cases z)) ht) hf hm (Rps.pen S sb n r)
theorem Rps.pen (S : PenS H pn cl cells t r) (sb : SameBut pn H H') : ∀ {vs : List V} {ds : List Dat}, nlS ds = true → RpsK K H vs ds → RpsK K H' vs ds
  | _, _, _, .nil => .nil
  | _, _, n, .cons h r => by
    have n := n
    unfold nlS at n
    rw [Bool.and_eq_true] at n
    exact .cons (Rp.pen S sb n.1 h) (Rps.pen S sb n.2 r)
end
/-- a paper of a class without names of its own -/
theorem pap_plain {x dx t : Addr} {c : Nat} {z : Str} {vs : List V} {ds : List Dat} (hf : fl c = []) (hx : H x = some (.ins (ca K c) dx [("word", .str z), ("parts", .ref t)])) (ht : H t = some (.tup vs)) (r : ∀ o, RpsK K (upd H x o) vs ds) : RpK K H (.ref x) (.pap c z ds) := by
  have r2 := r (.ins (ca K c) dx [("word", .str z), ("parts", .ref t)])
  rw [upd_self hx] at r2
  refine .pap hx rfl rfl ht (fun i f hi => ?_) (fun f v hv => ?_) r2
  · rw [hf] at hi
    simp at hi
  · by_cases e1 : f = ("word" : Str)
    · exact .inl e1
    · by_cases e2 : f = ("parts" : Str)
      · exact .inr (.inl e2)
      · have b1 : (f == ("word" : Str)) = false := by simpa using e1
        have b2 : (f == ("parts" : Str)) = false := by simpa using e2
        rw [List.lookup, b1] at hv
        simp only [] at hv
        rw [List.lookup, b2] at hv
        simp [List.lookup] at hv
end
/-- the odd values, the bad ones -/
structure OddD (d : Dat) : Prop where
  ok : d.ok = true
  nl : d.nl = true
  sz : d.sz + 10 ≤ sizeLine
  tx : ptx d = .error "paper"
structure BadD (d : Dat) : Prop where
  ok : d.ok = true
  nl : d.nl = true
  sz : d.sz ≤ 5000
  cn : d.cn ≤ 5
  dp : d.dep ≤ 5
  fx : d.fix = d
  tx : ∀ n, hasText n d = false
def odds7 : List Dat := [.non, .int 5, .str "sure", .tup [], .pap 0 "other" [.int 1], .pap 0 "sure" [], .pap 1 "deal" [.int 1, .int 2]]
theorem odd_ok : ∀ d ∈ odds7, OddD d := by
  intro d m
  simp only [odds7, List.mem_cons, List.not_mem_nil, or_false] at m
  rcases m with rfl | rfl | rfl | rfl | rfl | rfl | rfl <;> exact ⟨by decide +kernel, by decide +kernel, by decide +kernel, by rfl⟩
/-- a number of more than 4000 figures -/
theorem big : ∃ N : Int, PySem.intText? (("1" : Str) ++ repS "0" 4000) = some N ∧ BadD (.int N) ∧ BadD (.int (-N)) := by
  obtain ⟨o1, _, _⟩ := one_noughts (k := 4000) (by decide)
  have h1 : ((10 ^ 4000 : Nat) : Int) - 1 = maxI := rfl
  have p1 : (10 : Nat) ^ 4000 < 10 ^ 4001 := Nat.pow_lt_pow_right (by decide) (by decide)
  have p0 : 0 < (10 : Nat) ^ 4000 := Nat.pow_pos (by decide)
  generalize 10 ^ 4000 = B at o1 h1 p1 p0
  have tl_len : ∀ z : Str, z.length = z.cps.toList.length := fun z => by simp [PySem.Str.length]
  have len : ∀ n : Nat, n < 10 ^ 4001 → (TL.numL n).length ≤ 4001 := fun n h => TL.numL_len (by decide) h
  generalize 10 ^ 4001 = C at p1 len
  have bad : ∀ i : Int, i.natAbs = B → (iStr i).length ≤ 4900 → BadD (.int i) := fun i hi hl => by
    refine ⟨rfl, rfl, (by show (iStr i).length + 1 ≤ 5000; omega), (by show 1 ≤ 5; omega), Nat.zero_le _, rfl, fun n => ?_⟩
    have e : hasFlat (.int i) = false := decide_eq_false (by omega)
    cases n <;> exact e
  refine ⟨(B : Int), o1, bad _ (by omega) ?_, bad _ (by omega) ?_⟩
  · rw [tl_len, tl_pos]
    have := len B p1
    omega
  · obtain ⟨m, rfl⟩ : ∃ m, B = m + 1 := ⟨B - 1, by omega⟩
    rw [tl_len, tl_neg, List.length_cons]
    have := len (m + 1) p1
    omega
theorem bad_true : BadD (.bl true) := ⟨rfl, rfl, by decide, by decide, by decide, rfl, fun n => by cases n <;> rfl⟩
theorem bad_rail : BadD (.str "Rail") := ⟨rfl, rfl, by decide +kernel, by decide +kernel, by decide +kernel, rfl, fun n => by
  have e : hasFlat (.str "Rail") = false := by decide +kernel
  cases n <;> exact e⟩
theorem bad_none : BadD (.str "") := ⟨rfl, rfl, by decide +kernel, by decide +kernel, by decide +kernel, rfl, fun n => by
  have e : hasFlat (.str "") = false := by decide +kernel
  cases n <;> exact e⟩
theorem bad_emp : BadD .emp := ⟨rfl, rfl, by decide, by decide, by decide, rfl, fun n => by cases n <;> rfl⟩
theorem bad_tup : BadD (.tup [.bl true]) := ⟨rfl, rfl, by decide +kernel, by decide +kernel, by decide +kernel, rfl, fun n => by
  cases n with
  | zero => rfl
  | succ n =>
    show (hasText n (.bl true) && true) = false
    rw [bad_true.tx n]
    rfl⟩
end K6
end
section -- KL5
set_option maxHeartbeats 2000000
/-! The law picks an odd value and a bad one. -/
namespace K6
open PySem PySem.Spec PyProof.Rows L2 NdefX LamX
theorem rep_len {z : Str} {c : Nat} (h : z.cps.toList = [c]) (k : Nat) : (repS z k).length = k := by
  have : (repS z k).length = (repS z k).cps.toList.length := by simp [PySem.Str.length]
  rw [this, rep1_tl h k, List.length_replicate]
theorem add_len {x y : Str} {a b : Nat} (hy : y.length = b) (hx : x.length = a) (h : a + b ≤ sizeLine) : x.length + y.length ≤ sizeLine := by
  rw [hx, hy]
  exact h
theorem app_len {x y : Str} : (x ++ y).length = x.length + y.length := by
  have e : ∀ z : Str, z.length = (TL.tl z).length := TL.len_tl
  rw [e, e x, e y, TL.tl_append, List.length_append]
theorem app_le {x y : Str} (h : x.length + y.length ≤ sizeLine) : (x ++ y).length ≤ sizeLine := by
  rw [app_len]
  exact h
theorem l4 {z : Str} {c : Nat} (h : z.cps.toList = [c]) : (repS z (4000 : Int).toNat).length = 4000 := rep_len h 4000
theorem bigZ : ∃ N : Int, PySem.intText? (("1" : Str) ++ repS "0" (4000 : Int).toNat) = some N ∧ BadD (.int N) ∧ BadD (.int (-N)) := by
  have e : (4000 : Int).toNat = 4000 := rfl
  rw [e]
  exact big
theorem lcZ : (("1" : Str) ++ repS "0" (4000 : Int).toNat).cps.all (· < 128) = true := by
  have e : (4000 : Int).toNat = 4000 := rfl
  rw [e]
  exact (one_noughts (k := 4000) (by decide)).2.2
theorem mulZ : ("0" : Str).length * (4000 : Int).toNat ≤ sizeLine := by decide +kernel
section
variable {P : Program} {w : World} {K : PySem.W.Frag} {mg : Str → Option Value} {base : Heap} {PB PL kk : Nat} {cL : Addr} {A : Around} {outer : List Env} {s : Shared} {H : Hp} {E : XK}
theorem st_5 (L : LawD P w K mg base PB PL kk) (hr : Room (kk + 3) (XL P w K mg base cL A outer s H E).A) : PS (XL P w K mg base cL A outer s H E) (lst_ 5) (fun D σ H => ∃ (a pn cl : Addr) (cells : List Int) (t r : Int) (x1 x2 x3 x4 x5 x6 x7 x8 x9 x10 x12 : Option V), σ = sg (.ref a) (.ref pn) x1 x2 x3 x4 x5 x6 x7 x8 x9 x10 x12 ∧ PenS H pn cl cells t r ∧ t + 2 ≤ tMax ∧ Tabs (T2 PB PL) H ∧
    ∀ (H' : Hp) (t' r' : Int) (vo vb : V) (o b : Dat), Tabs (T2 PB PL) H' → PenS H' pn cl cells t' r' → t' ≤ t + 2 → RpK K H' vo o → OddD o → RpK K H' vb b → BadD b → D.nx (sg (.ref a) (.ref pn) x1 x2 x3 x4 x5 x6 x7 x8 (some vb) (some vo) x12) H') := by
  have T := L.T
  have ND := sc_law.nd
  have h1 := hr.mono (show kk ≤ kk + 3 by omega)
  have h2 := hr.mono (show kk + 1 ≤ kk + 3 by omega)
  have mN := T.z "int" (by decide +kernel)
  have gP := T.g "Paper" (by decide +kernel)
  have gD := T.g "Denial" (by decide +kernel)
  refine PS.by (ps_asg (pe_tup (pa_cons (pe_d L.DP h1 pass0 (pa_cons (pv 11) (pa_cons (pe_lst (pa_cons pe_non (pa_cons pe_int (pa_cons pe_str (pa_cons (pe_tup pa_nil)
      (pa_cons (StX.pe_makeR L.M0 L.FP h2 rfl gP pass0 (pa_cons pe_str (pa_cons pe_int pa_nil))) (pa_cons (StX.pe_makeR L.M0 L.FP h2 rfl gP pass0 (pa_cons pe_str pa_nil)) (pa_cons (StX.pe_makeR L.M1 L.FP h2 rfl gD pass0 (pa_cons pe_str (pa_cons pe_int (pa_cons pe_int pa_nil)))) pa_nil)))))))) pa_nil)))
    (pa_cons (pe_d L.DP h1 pass0 (pa_cons (pv 11) (pa_cons (pe_lst (pa_cons pe_bl (pa_cons pe_str (pa_cons pe_str (pa_cons pe_dnewK (pa_cons (pe_tup (pa_cons pe_bl pa_nil))
      (pa_cons (pe_callTy (call_int_strL T.dg) rfl mN (by decide +kernel) (pa_cons (pe_op op_add_str pe_str (pe_op op_mul_str pe_str pe_int)) pa_nil))
      (pa_cons (pe_un un_neg (pe_callTy (call_int_strL T.dg) rfl mN (by decide +kernel) (pa_cons (pe_op op_add_str pe_str (pe_op op_mul_str pe_str pe_int)) pa_nil))) pa_nil)))))))) pa_nil))) pa_nil)))
    (pg_tup rfl (pgs_cons (pg_name (i := 10) ND rfl (Or.inr rfl)) (pgs_cons (pg_name (i := 9) ND rfl (Or.inr rfl)) pgs_nil)))) fun D σ H h => ?_
  obtain ⟨a, pn, cl, cells, t, r, x1, x2, x3, x4, x5, x6, x7, x8, x9, x10, x12, rfl, S, ht, tb, q⟩ := h
  -- the odd ones
  refine ⟨_, rfl, Nat.zero_le _, fun p1 n1 => ?_⟩
  have s1 : Same H (upd H p1 (.tup [])) := Same.new n1
  have r1 : RpK K (upd H p1 (.tup [])) (.ref p1) (.tup []) := .tup upd_same .nil
  generalize upd H p1 (.tup []) = H1 at s1 r1 ⊢
  intro x dx nx ndx ne
  have sm : Same H1 (upd (upd H1 dx (.own x)) x (.ins (ca K 0) dx [])) := make_same nx ndx ne
  refine spPap_of (c := 0) (ds := [.int 1]) (by decide) upd_same (.cons (.int 1) .nil) (by decide +kernel) (by decide +kernel) (by decide +kernel) fun H2 t2 vs2 sb2 e2 f2 g2 => ⟨rfl, ?_⟩
  have s2 : Same H1 H2 := fun b o e => sb2 b o (ne_of_none e nx) (sm b o e)
  have r2 : RpK K H2 (.ref x) (.pap 0 "other" [.int 1]) := pap_plain rfl e2 f2 g2
  generalize V.ref x = v2 at r2 ⊢
  intro y dy ny ndy ney
  have sn : Same H2 (upd (upd H2 dy (.own y)) y (.ins (ca K 0) dy [])) := make_same ny ndy ney
  refine spPap_of (c := 0) (ds := []) (by decide) upd_same .nil (by decide +kernel) (by decide +kernel) (by decide +kernel) fun H3 t3 vs3 sb3 e3 f3 g3 => ⟨rfl, ?_⟩
  have s3 : Same H2 H3 := fun b o e => sb3 b o (ne_of_none e ny) (sn b o e)
  have r3 : RpK K H3 (.ref y) (.pap 0 "sure" []) := pap_plain rfl e3 f3 g3
  generalize V.ref y = v3 at r3 ⊢
  intro z dz nz ndz nez
  have so : Same H3 (upd (upd H3 dz (.own z)) z (.ins (ca K 1) dz [])) := make_same nz ndz nez
  refine spPap_of (c := 1) (ds := [.int 1, .int 2]) (by decide) upd_same (.cons (.int 1) (.cons (.int 2) .nil)) (by decide +kernel) (by decide +kernel) (by decide +kernel) fun H4 t4 vs4 sb4 e4 f4 g4 => ⟨rfl, ?_⟩
  have s4 : Same H3 H4 := fun b o e => sb4 b o (ne_of_none e nz) (so b o e)
  have r4 : RpK K H4 (.ref z) (.pap 1 "deal" [.int 1, .int 2]) := pap_plain rfl e4 f4 g4
  generalize V.ref z = v4 at r4 ⊢
  have s14 := (s2.trans s3).trans s4
  have rs : RpsK K H4 [.non, .int 5, .str "sure", .ref p1, v2, v3, v4] odds7 := .cons .non (.cons (.int 5) (.cons (.str _) (.cons (r1.mono s14) (.cons (r2.mono (s3.trans s4)) (.cons (r3.mono s4) (.cons r4 .nil))))))
  have S4 := S.mono (s1.trans s14)
  have tb4 := tb.ext (s1.trans s14)
  refine ⟨(by show 7 ≤ sizeLine; decide), fun p5 n5 => ?_⟩
  have s5 : Same H4 (upd H4 p5 (.lst [.non, .int 5, .str "sure", .ref p1, v2, v3, v4])) := Same.new n5
  have e5 : upd H4 p5 (.lst [.non, .int 5, .str "sure", .ref p1, v2, v3, v4]) p5 = some (.lst [.non, .int 5, .str "sure", .ref p1, v2, v3, v4]) := upd_same
  generalize upd H4 p5 (.lst [.non, .int 5, .str "sure", .ref p1, v2, v3, v4]) = H5 at s5 e5 ⊢
  have S5 := S4.mono s5
  have ne5 : p5 ≠ pn := (ne_of_none S4.hp n5).symm
  refine ⟨pn, cl, p5, cells, t, r, _, rfl, S5, by omega, e5, ne5, (by show 0 < 7; decide), (by show 7 < 1000; decide), fun H6 i vo t6 r6 sb6 S6 l6 l6' ei => ?_⟩
  obtain ⟨o, eo, ro⟩ := (Rps.pen S5 sb6 (by decide +kernel) (rs.mono s5)).at ei
  have od := odd_ok o (List.mem_of_getElem? eo)
  have tb6 := Tabs.pen (tb4.ext s5) S5 sb6
  -- the bad ones
  obtain ⟨N, hN, bN, bM⟩ := bigZ
  have l1 : ("1" : Str).length + (repS "0" (4000 : Int).toNat).length ≤ sizeLine := add_len (l4 rfl) rfl (by decide)
  have l2 := app_le l1
  have lc := lcZ
  have lm := mulZ
  refine ⟨_, rfl, fun p7 n7 => ?_⟩
  have s7 : Same H6 (upd H6 p7 (.dK [])) := Same.new n7
  have r7 : RpK K (upd H6 p7 (.dK [])) (.ref p7) .emp := .emp upd_same
  generalize upd H6 p7 (.dK []) = H7 at s7 r7 ⊢
  refine ⟨(by show 1 ≤ sizeLine; decide), fun p8 n8 => ?_⟩
  have s8 : Same H7 (upd H7 p8 (.tup [.bl true])) := Same.new n8
  have r8 : RpK K (upd H7 p8 (.tup [.bl true])) (.ref p8) (.tup [.bl true]) := .tup upd_same (.cons (.bl _) .nil)
  generalize upd H7 p8 (.tup [.bl true]) = H8 at s8 r8 ⊢
  refine ⟨_, _, rfl, rfl, by decide, by decide, lm, _, _, rfl, rfl, l1, _, _, rfl, hN, l2, lc, ?_⟩
  refine ⟨_, _, rfl, rfl, by decide, by decide, lm, _, _, rfl, rfl, l1, _, _, rfl, hN, l2, lc, _, rfl, ?_⟩
  refine ⟨(by show 7 ≤ sizeLine; decide), fun p9 n9 => ?_⟩
  have bads : ∀ d ∈ ([.bl true, .str "Rail", .str "", .emp, .tup [.bl true], .int N, .int (-N)] : List Dat), BadD d := by
    intro d m
    simp only [List.mem_cons, List.not_mem_nil, or_false] at m
    rcases m with rfl | rfl | rfl | rfl | rfl | rfl | rfl
    · exact bad_true
    · exact bad_rail
    · exact bad_none
    · exact bad_emp
    · exact bad_tup
    · exact bN
    · exact bM
  have rb : RpsK K H8 [.bl true, .str "Rail", .str "", .ref p7, .ref p8, .int N, .int (-N)] [.bl true, .str "Rail", .str "", .emp, .tup [.bl true], .int N, .int (-N)] := .cons (.bl _) (.cons (.str _) (.cons (.str _) (.cons (r7.mono s8) (.cons r8 (.cons (.int _) (.cons (.int _) .nil))))))
  have S8 := S6.mono (s7.trans s8)
  have s9 : Same H8 (upd H8 p9 (.lst [.bl true, .str "Rail", .str "", .ref p7, .ref p8, .int N, .int (-N)])) := Same.new n9
  have e9 : upd H8 p9 (.lst [.bl true, .str "Rail", .str "", .ref p7, .ref p8, .int N, .int (-N)]) p9 = some (.lst [.bl true, .str "Rail", .str "", .ref p7, .ref p8, .int N, .int (-N)]) := upd_same
  generalize upd H8 p9 (.lst [.bl true, .str "Rail", .str "", .ref p7, .ref p8, .int N, .int (-N)]) = H9 at s9 e9 ⊢
  have S9 := S8.mono s9
  have ne9 : p9 ≠ pn := (ne_of_none S8.hp n9).symm
  refine ⟨pn, cl, p9, cells, t6, r6, _, rfl, S9, by omega, e9, ne9, (by show 0 < 7; decide), (by show 7 < 1000; decide), fun H10 j vb t10 r10 sb10 S10 l10 l10' ej => ?_⟩
  have nlb : nlS ([.bl true, .str "Rail", .str "", .emp, .tup [.bl true], .int N, .int (-N)] : List Dat) = true := rfl
  obtain ⟨b, eb, rbb⟩ := (Rps.pen S9 sb10 nlb (rb.mono s9)).at ej
  have bd := bads b (List.mem_of_getElem? eb)
  have s69 := (s7.trans s8).trans s9
  have ro10 := Rp.pen S9 sb10 od.nl (ro.mono s69)
  have tb10 := Tabs.pen (tb6.ext s69) S9 sb10
  refine ⟨(by show 2 ≤ sizeLine; decide), fun p11 n11 => ?_⟩
  have s11 : Same H10 (upd H10 p11 (.tup [vo, vb])) := Same.new n11
  refine ⟨p11, _, rfl, SqT.of upd_same, rfl, _, _, rfl, _, _, rfl, rfl, ?_⟩
  exact q _ t10 r10 vo vb o b (tb10.ext s11) (S10.mono s11) (by omega) (ro10.mono s11) od (rbb.mono s11) bd
end
end K6
end
section -- KL6
set_option maxHeartbeats 2000000
/-! The law hears what is refused. -/
namespace K6
open PySem PySem.Spec PyProof.Rows L2 NdefX LamX
/-- x(lambda b=i: f(e, ..)) -/
theorem pe_lam3R {X : Cx} {T : List (Addr × Str)} {TT : (XK → Hp → VK → Prop) → Hp → VK → Prop} {x a b : Str} {g c P : Addr} {k : Nat} {sg : Scope} {Ng : List Str} {params : Arguments} {body : Expr} {scope : Scope} {sp : Sp} {ta : TA} {p lpos pos dp : Pos} {i : Int} {j : Nat}
    (G : Getter X x a g Ng sg (X.env.qual ++ "<lambda>") TT) (B : Tabled X T c P) (hr : Room (k + 2) X.A) (L : Lam3S X.N X.env.scope scope b)
    (hdef : defaultsOf params X.env = ([eval (.Constant (.int i) j dp) X.env], [])) (hkw : params.kwonlyargs = [])
    (hbind : ∀ (q : Str) (cl : List (Str × Addr)) (D : Addr) (pm cv ctv v : Value), ∃ kk, bindArgs (lfd q params body scope cl (.ref D) pm cv ctv) ⟨[], []⟩ = seqItems? (.ref D) >>= kk ∧ kk (some ([v] : List Value).toArray) = pure [(b, v)])
    (hbody : ∀ (A : Around) (outer : List Env) (s : Shared) (H : Hp) (E : XK) (f c' : Addr), Room k (A.deeper (lamEnv X scope s.heap.objs.size f c')) → PE (lamCx X A outer s H E scope f c') body (tCall sp [] E ta))
    (hg : Gl X x := by rfl)
    (hdb : (x == ("__debug__" : Str)) = false := by decide) (hd : (a == ("__debug__" : Str)) = false := by decide) (hcd : (a == ("__classdict__" : Str)) = false := by decide) :
    PE X (.Call (.Name x p) [.Lambda params body scope lpos] [] pos) (tLam T TT fun E => tCall sp [] E ta) := pe_lam3S G B hr L hdef hkw hbind hbody hg hdb hd hcd
theorem pe_mkK {X : Cx} {K : PySem.W.Frag} {k n c : Nat} {nm : Str} {ps : List Str} {z : Str} {p pos : Pos} {e : Expr} {es : List Expr} {t : TA} (hK : X.K = K) (M : MkOk X.prog X.w X.K X.mg X.base k n c nm ps z) (hr : Room (k + 1) X.A) (ha : PA X (e :: es) t) (hg : Gl X nm := by rfl) (hdb : (nm == ("__debug__" : Str)) = false := by decide)
    (he : starEach (e :: es) X.env = (false, eval e X.env) :: starEach es X.env := by rfl) (hpl : (backTo pos (starEach es X.env)).any (·.1) = false := by rfl) : PE X (.Call (.Name nm p) (e :: es) [] pos) (tMake (ca K c) (spCls K n c z) [] E0 t) := by
  subst hK
  exact pe_mk M hr ha hg hdb he hpl
section
variable {K : PySem.W.Frag} {H : Hp} {Q : VK}
/-- what a refused paper comes to -/
theorem heard_paper {m : Str} (q : ∀ H2 p, Same H H2 → H2 p = some (.tup [.str "paper", .str m]) → Q (.ref p) H2) : ∀ H' x, Same H H' → H' x = some (.xd [("part", .str m)]) → HeardX K Q (.ref (He.ga K "BadPaper")) (some x) H' := fun H' x s hx =>
  .inr ⟨x, m, rfl, rfl, hx, fun H2 p s2 np e => q H2 p (s.trans s2) e⟩
theorem dp_paper {p : Addr} {m : Str} (h : H p = some (.tup [.str "paper", .str m])) : Dp K H (.ref p) (.tuple [.str "paper", .str m]) := .tup (SqT.of h) (.cons (.str _) (.cons (.str _) .nil))
end
theorem ptx_bad1 {b : Dat} (h : BadD b) : ptx (.pap 20 "sure" [b]) = .error "parts" := by
  show (if counts.lookup ("sure" : Str) = some ([b] : List Dat).length then (if hasText 21 (.pap 20 "sure" [b]) = true then .ok (txtW "sure" [b]) else .error "parts") else .error "paper" : Except Str Str) = _
  rw [if_pos (show counts.lookup ("sure" : Str) = some ([b] : List Dat).length from (by decide +kernel : counts.lookup ("sure" : Str) = some 1)), if_neg]
  show ¬ (decide (counts.lookup ("sure" : Str) = some 1) && (hasText 20 b && true)) = true
  rw [h.tx 20, Bool.false_and, Bool.and_false]
  exact Bool.false_ne_true
theorem ptx_bad2 {b : Dat} (h : BadD b) : ptx (.pap 11 "lots" [.tup [], .tup [.tup [b]]]) = .error "parts" := by
  show (if counts.lookup ("lots" : Str) = some ([.tup [], .tup [.tup [b]]] : List Dat).length then (if hasText 21 (.pap 11 "lots" [.tup [], .tup [.tup [b]]]) = true then .ok (txtW "lots" [.tup [], .tup [.tup [b]]]) else .error "parts") else .error "paper" : Except Str Str) = _
  rw [if_pos (show counts.lookup ("lots" : Str) = some ([.tup [], .tup [.tup [b]]] : List Dat).length from (by decide +kernel : counts.lookup ("lots" : Str) = some 2)), if_neg]
  show ¬ (decide (counts.lookup ("lots" : Str) = some 2) && (true && ((hasText 18 b && true) && true && true))) = true
  rw [h.tx 18]
  simp
theorem ok1 {c : Nat} {z : Str} {ds : List Dat} (hc : c < 24) (h1 : nlS ds = true) (h2 : okS ds = true) : (Dat.pap c z ds).ok = true := by
  show (decide (c < 24) && (nlS ds && okS ds)) = true
  rw [decide_eq_true hc, h1, h2]
  rfl
section
variable {P : Program} {w : World} {K : PySem.W.Frag} {mg : Str → Option Value} {base : Heap} {PB PL kk : Nat} {cB cL : Addr} {A : Around} {outer : List Env} {s : Shared} {H : Hp} {E : XK}
theorem getL (L : LawD P w K mg base PB PL kk) : Getter (XL P w K mg base cL A outer s H E) "_law_at_heard" "ask" (He.ga K "_law_at_heard") NHd (defScope (top 90)) qL (TTh K) := by
  obtain ⟨fd, F⟩ := L.FH
  exact getter_heard L.T L.hT L.hP F
theorem tabL (TT : TwoT base mg cB PB cL PL) : Tabled (XL P w K mg base cL A outer s H E) (T2 PB PL) cL PL := ⟨TT.l, rfl, List.mem_cons_of_mem _ List.mem_cons_self, fun p hp e => by
    rcases List.mem_cons.mp hp with z | z
    · exfalso
      rw [z] at e
      exact TT.ne e
    · rw [List.mem_singleton.mp z]
      rfl⟩
theorem st_6 (L : LawD P w K mg base PB PL kk) (TT : TwoT base mg cB PB cL PL) (hr : Room (kk + 3) (XL P w K mg base cL A outer s H E).A) : PS (XL P w K mg base cL A outer s H E) (lst_ 6) (fun D σ H => ∃ (a pn cl : Addr) (cells : List Int) (t r : Int) (vo vb : V) (o b : Dat) (x1 x2 x3 x4 x5 x6 x7 x8 x12 : Option V), σ = sg (.ref a) (.ref pn) x1 x2 x3 x4 x5 x6 x7 x8 (some vb) (some vo) x12 ∧ PenS H pn cl cells t r ∧ t + 1 ≤ tMax ∧ Tabs (T2 PB PL) H ∧ RpK K H vo o ∧ OddD o ∧ RpK K H vb b ∧ BadD b ∧
    ∀ (H' : Hp) (l p1 p2 p3 p4 : Addr), Tabs (T2 PB PL) H' → H' l = some (.lst [.ref p1, .ref p2, .ref p3, .ref p4]) → H' p1 = some (.tup [.str "paper", .str "paper"]) → H' p2 = some (.tup [.str "paper", .str "parts"]) → H' p3 = some (.tup [.str "paper", .str "parts"]) → H' p4 = some (.tup [.str "text", .int 0, .int 0]) →
      D.nx (sg (.ref a) (.ref pn) x1 x2 x3 x4 x5 x6 (some (.ref l)) x8 (some vb) (some vo) x12) H') := by
  have T := L.T
  have ND := sc_law.nd
  have G : Getter (XL P w K mg base cL A outer s H E) "_law_at_heard" "ask" (He.ga K "_law_at_heard") NHd (defScope (top 90)) qL (TTh K) := getL L
  have B : Tabled (XL P w K mg base cL A outer s H E) (T2 PB PL) cL PL := tabL TT
  refine PS.by (ps_set (i := 7) ND rfl (Or.inl rfl) (pe_lst
    (pa_cons (pe_lam0R (k := kk + 1) G B hr (lamS_by (sc := defScope (top 94)) (by decide +kernel)) (fun A outer s H E f c' hr2 => pe_d L.DT (hr2.mono (by omega)) passL (pa_cons (pv 10) pa_nil)))
    (pa_cons (pe_lam3R (k := kk + 1) (b := "a1") G B hr (lam3S_by (N := NL) (sc := defScope (top 94)) (by decide +kernel)) rfl rfl (fun _ _ _ _ _ _ _ => ⟨_, rfl, rfl⟩) (fun A outer s H E f c' hr2 => pe_d L.DT (hr2.mono (by omega)) passL (pa_cons (pe_mkK (K := K) rfl L.MS hr2 (pa_cons (pv 9) pa_nil)) pa_nil)))
    (pa_cons (pe_lam3R (k := kk + 1) (b := "a2") G B hr (lam3S_by (N := NL) (sc := defScope (top 94)) (by decide +kernel)) rfl rfl (fun _ _ _ _ _ _ _ => ⟨_, rfl, rfl⟩) (fun A outer s H E f c' hr2 => pe_d L.DT (hr2.mono (by omega)) passL (pa_cons (pe_mkK (K := K) rfl L.ML hr2 (pa_cons (pe_tup pa_nil) (pa_cons (pe_tup (pa_cons (pe_tup (pa_cons (pv 9) pa_nil)) pa_nil)) pa_nil))) pa_nil)))
    (pa_cons (pe_lam3R (k := kk + 1) (b := "a3") G B hr (lam3S_by (N := NL) (sc := defScope (top 94)) (by decide +kernel)) rfl rfl (fun _ _ _ _ _ _ _ => ⟨_, rfl, rfl⟩) (fun A outer s H E f c' hr2 => pe_d L.DR (hr2.mono (by omega)) passL (pa_cons (pe_d L.DP (hr2.mono (by omega)) pass0 (pa_cons (pv 11) (pa_cons (pe_lst (pa_cons pe_non (pa_cons pe_int (pa_cons (pe_tup pa_nil) pa_nil)))) pa_nil))) pa_nil))) pa_nil)))))) fun D σ H h => ?_
  obtain ⟨a, pn, cl, cells, t, r, vo, vb, o, b, x1, x2, x3, x4, x5, x6, x7, x8, x12, rfl, S, ht, tb, ro, od, rb, bd, q⟩ := h
  have bok : okS [b] = true := by
    show (b.ok && true) = true
    rw [bd.ok]
    rfl
  have bnl : nlS [b] = true := by
    show (b.nl && true) = true
    rw [bd.nl]
    rfl
  have bsz := bd.sz
  have bcn := bd.cn
  have bdp := bd.dp
  have e16 : sizeLine = 16777216 := sizeLine_eq
  -- the odd one
  refine ⟨tb, fun H1 eN1 T1 H2 Q2 s2 k2 => ⟨_, rfl, vo, o, rfl, (Rp.ext eN1 ro).mono s2, od.ok, od.sz, ?_⟩⟩
  rw [od.tx]
  refine heard_paper fun H3 p1 s3 e1 => ?_
  have s23 := s2.trans s3
  have T3 := T1.ext s23
  have rb3 := (Rp.ext eN1 rb).mono s23
  have S3 := (S.ext eN1).mono s23
  -- a paper of the bad one
  refine ⟨T3, fun H4 eN4 T4 H5 Q5 s5 k5 => ⟨_, rfl, ?_⟩⟩
  intro x dx nx ndx ne
  have sm : Same H5 (upd (upd H5 dx (.own x)) x (.ins (ca K 20) dx [])) := make_same nx ndx ne
  have rb5 := (Rp.ext eN4 rb3).mono s5
  refine ⟨x, dx, [vb], [b], rfl, rfl, upd_same, (Rps.cons rb5 .nil).mono sm, bok, (by show b.cn + 0 + 4 ≤ sizeLine; omega), (by show max b.dep 0 ≤ 20; omega), fun H6 sb6 r6 => ⟨rfl, ?_⟩⟩
  have s6 : Same H5 H6 := fun b o e => sb6 b o (ne_of_none e nx) (sm b o e)
  have f6 : fixS [b] = [b] := by
    show [b.fix] = [b]
    rw [bd.fx]
  rw [f6] at r6
  refine ⟨.ref x, .pap 20 "sure" [b], rfl, r6, ok1 (by decide) bnl bok, (by show 5 + 4 + (b.sz + 0) + 10 ≤ sizeLine; omega), ?_⟩
  rw [ptx_bad1 bd]
  refine heard_paper fun H7 p2 s7 e2 => ?_
  have s57 := (s5.trans s6).trans s7
  have T7 := T4.ext s57
  have rb7 := rb5.mono (s6.trans s7)
  have S7 := (S3.ext eN4).mono s57
  have e1_7 := s57 _ _ (eN4 _ _ e1 (by intro ps z; cases z))
  -- the bad one deeper
  refine ⟨T7, fun H8 eN8 T8 H9 Q9 s9 k9 => ⟨Nat.zero_le _, fun p10 n10 => ?_⟩⟩
  have rb9 := (Rp.ext eN8 rb7).mono s9
  have s10 : Same H9 (upd H9 p10 (.tup [])) := Same.new n10
  have r10 : RpK K (upd H9 p10 (.tup [])) (.ref p10) (.tup []) := .tup upd_same .nil
  generalize upd H9 p10 (.tup []) = H10 at s10 r10 ⊢
  refine ⟨_, rfl, (by show 1 ≤ sizeLine; decide), fun p11 n11 => ?_⟩
  have s11 : Same H10 (upd H10 p11 (.tup [vb])) := Same.new n11
  have r11 : RpK K (upd H10 p11 (.tup [vb])) (.ref p11) (.tup [b]) := .tup upd_same (.cons (rb9.mono (s10.trans s11)) .nil)
  generalize upd H10 p11 (.tup [vb]) = H11 at s11 r11 ⊢
  refine ⟨(by show 1 ≤ sizeLine; decide), fun p12 n12 => ?_⟩
  have s12 : Same H11 (upd H11 p12 (.tup [.ref p11])) := Same.new n12
  have r12 : RpK K (upd H11 p12 (.tup [.ref p11])) (.ref p12) (.tup [.tup [b]]) := .tup upd_same (.cons (r11.mono s12) .nil)
  generalize upd H11 p12 (.tup [.ref p11]) = H12 at s12 r12 ⊢
  intro y dy ny ndy ney
  have sn : Same H12 (upd (upd H12 dy (.own y)) y (.ins (ca K 11) dy [])) := make_same ny ndy ney
  have lok : okS [.tup [], .tup [.tup [b]]] = true := by
    show (true && ((b.ok && true) && true && true)) = true
    rw [bd.ok]
    rfl
  have lnl : nlS [.tup [], .tup [.tup [b]]] = true := by
    show (true && ((b.nl && true) && true && true)) = true
    rw [bd.nl]
    rfl
  refine ⟨y, dy, [.ref p10, .ref p12], [.tup [], .tup [.tup [b]]], rfl, rfl, upd_same, (Rps.cons (r10.mono (s11.trans s12)) (.cons r12 .nil)).mono sn, lok, (by show (1 + 0) + ((1 + ((1 + (b.cn + 0)) + 0)) + 0) + 4 ≤ sizeLine; omega), (by show max (0 + 1) (max (max (max b.dep 0 + 1) 0 + 1) 0) ≤ 20; omega), fun H13 sb13 r13 => ⟨rfl, ?_⟩⟩
  have s13 : Same H12 H13 := fun b o e => sb13 b o (ne_of_none e ny) (sn b o e)
  have f13 : fixS [.tup [], .tup [.tup [b]]] = [.tup [], .tup [.tup [b]]] := by
    show [Dat.tup [], Dat.tup [Dat.tup [b.fix]]] = _
    rw [bd.fx]
  rw [f13] at r13
  refine ⟨.ref y, .pap 11 "lots" [.tup [], .tup [.tup [b]]], rfl, r13, ok1 (by decide) lnl lok, (by show 5 + 4 + ((4 + 0) + ((4 + ((4 + (b.sz + 0)) + 0)) + 0)) + 10 ≤ sizeLine; omega), ?_⟩
  rw [ptx_bad2 bd]
  refine heard_paper fun H14 p3 s14 e3 => ?_
  have s914 := ((((s9.trans s10).trans s11).trans s12).trans s13).trans s14
  have T14 := T8.ext s914
  have S14 := (S7.ext eN8).mono s914
  have e1_14 := s914 _ _ (eN8 _ _ e1_7 (by intro ps z; cases z))
  have e2_14 := s914 _ _ (eN8 _ _ e2 (by intro ps z; cases z))
  -- what is no text
  refine ⟨T14, fun H15 eN15 T15 H16 Q16 s16 k16 => ⟨_, rfl, Nat.zero_le _, fun p17 n17 => ?_⟩⟩
  have S16 := (S14.ext eN15).mono s16
  have s17 : Same H16 (upd H16 p17 (.tup [])) := Same.new n17
  have r17 : RpK K (upd H16 p17 (.tup [])) (.ref p17) (.tup []) := .tup upd_same .nil
  generalize upd H16 p17 (.tup []) = H17 at s17 r17 ⊢
  refine ⟨(by show 3 ≤ sizeLine; decide), fun p18 n18 => ?_⟩
  have S17 := S16.mono s17
  have s18 : Same H17 (upd H17 p18 (.lst [.non, .int 7, .ref p17])) := Same.new n18
  have e18 : upd H17 p18 (.lst [.non, .int 7, .ref p17]) p18 = some (.lst [.non, .int 7, .ref p17]) := upd_same
  generalize upd H17 p18 (.lst [.non, .int 7, .ref p17]) = H18 at s18 e18 ⊢
  have S18 := S17.mono s18
  have ne18 : p18 ≠ pn := (ne_of_none S17.hp n18).symm
  have rs : RpsK K H18 [.non, .int 7, .ref p17] [.non, .int 7, .tup []] := .cons .non (.cons (.int _) (.cons (r17.mono s18) .nil))
  refine ⟨pn, cl, p18, cells, t, r, _, rfl, S18, by omega, e18, ne18, (by show 0 < 3; decide), (by show 3 < 1000; decide), fun H19 i v t19 r19 sb19 S19 l19 l19' ei => ?_⟩
  obtain ⟨d, ed, rd⟩ := (Rps.pen S18 sb19 (by decide +kernel) rs).at ei
  have dg : d.okc = true ∧ ∀ z, d ≠ .str z := by
    rcases i with _ | _ | _ | i
    · obtain rfl : Dat.non = d := Option.some.inj ed
      exact ⟨rfl, fun z e => by cases e⟩
    · obtain rfl : Dat.int 7 = d := Option.some.inj ed
      exact ⟨rfl, fun z e => by cases e⟩
    · obtain rfl : Dat.tup [] = d := Option.some.inj ed
      exact ⟨rfl, fun z e => by cases e⟩
    · simp at ed
  refine ⟨v, d, rfl, rd, dg.1, fun z e => absurd e (dg.2 z), fun _ => heard_at (k := 0) fun H20 p4 s20 e4 => ?_⟩
  have s1618 := (s16.trans s17).trans s18
  have T19 := Tabs.pen (T15.ext s1618) S18 sb19
  have tup_ : ∀ {p : Addr} {xs : List V}, H14 p = some (.tup xs) → H20 p = some (.tup xs) := fun {p xs} e => by
    have e18 := s1618 _ _ (eN15 _ _ e (by intro ps z; cases z))
    exact s20 _ _ (sb19 _ _ (ne_of e18 S18.hp (by intro z; cases z)) e18)
  refine ⟨(by show 4 ≤ sizeLine; decide), fun l nl => ?_⟩
  have sl : Same H20 (upd H20 l (.lst [.ref p1, .ref p2, .ref p3, .ref p4])) := Same.new nl
  exact q _ l p1 p2 p3 p4 ((T19.ext s20).ext sl) upd_same (sl _ _ (tup_ e1_14)) (sl _ _ (tup_ e2_14)) (sl _ _ (tup_ e3)) (sl _ _ e4)
end
end K6
end
section -- KL7
set_option maxHeartbeats 2000000
/-! The law's great number, its deep papers, its end. -/
namespace K6
open PySem PySem.Spec PyProof.Rows L2 NdefX LamX
/-! ### 4000 nines -/
theorem nines_num : ∀ k : Nat, 0 < k → TL.numL (10 ^ k - 1) = List.replicate k 57
  | 0, h => absurd h (by decide)
  | 1, _ => by
    rw [TL.numL_lt (by decide)]
    rfl
  | k + 2, _ => by
    have ih := nines_num (k + 1) (Nat.succ_pos _)
    have p : 0 < 10 ^ (k + 1) := Nat.pow_pos (by decide)
    have e : 10 ^ (k + 2) = 10 ^ (k + 1) * 10 := Nat.pow_succ ..
    have p9 : 10 ≤ 10 ^ (k + 1) := by
      have : 1 ≤ 10 ^ k := Nat.pow_pos (by decide)
      rw [Nat.pow_succ]
      omega
    rw [TL.numL_step (by omega), show (10 ^ (k + 2) - 1) / 10 = 10 ^ (k + 1) - 1 by omega, show (10 ^ (k + 2) - 1) % 10 = 9 by omega, ih]
    show List.replicate (k + 1) 57 ++ [57] = List.replicate (k + 2) 57
    rw [← List.replicate_succ']
theorem nineZ : ∃ M : Int, PySem.intText? (repS "9" (4000 : Int).toNat) = some M ∧ hasFlat (.int M) = true ∧ iStr M = repS "9" (4000 : Int).toNat := by
  have e0 : (4000 : Int).toNat = 4000 := rfl
  rw [e0]
  have h1 := nines (k := 4000) (by decide) (by decide)
  have h2 := nines_num 4000 (by decide)
  have h3 : ((10 ^ 4000 : Nat) : Int) - 1 = maxI := rfl
  have p0 : 0 < (10 : Nat) ^ 4000 := Nat.pow_pos (by decide)
  generalize 10 ^ 4000 = B at h1 h2 h3 p0
  refine ⟨(B : Int) - 1, h1, decide_eq_true (by omega), ?_⟩
  have e : (B : Int) - 1 = ((B - 1 : Nat) : Int) := by omega
  rw [e]
  refine TL.ext_tl ?_
  have a1 : TL.tl (iStr ((B - 1 : Nat) : Int)) = TL.numL (B - 1) := tl_pos (B - 1)
  have a2 : TL.tl (repS "9" 4000) = List.replicate 4000 57 := rep1_tl rfl 4000
  rw [a1, a2, h2]
theorem ptx_nine {M : Int} (h : hasFlat (.int M) = true) : ptx (.pap 20 "sure" [.int M]) = .ok (txtW "sure" [.int M]) := by
  show (if counts.lookup ("sure" : Str) = some ([.int M] : List Dat).length then (if hasText 21 (.pap 20 "sure" [.int M]) = true then .ok (txtW "sure" [.int M]) else .error "parts") else .error "paper" : Except Str Str) = _
  rw [if_pos (show counts.lookup ("sure" : Str) = some ([.int M] : List Dat).length from (by decide +kernel : counts.lookup ("sure" : Str) = some 1)), if_pos]
  show (decide (counts.lookup ("sure" : Str) = some 1) && (hasText 20 (.int M) && true)) = true
  rw [show hasText 20 (.int M) = true from h, decide_eq_true (by decide +kernel : counts.lookup ("sure" : Str) = some 1)]
  rfl
theorem join2 (R : Str) : Txt.join " " ["sure", R] = ("sure " : Str) ++ R := by
  rw [TL.join_eq]
  show (("sure" : Str) ++ " ") ++ R = _
  rw [show ("sure" : Str) ++ " " = "sure " by decide +kernel]
theorem mul9 : ("9" : Str).length * (4000 : Int).toNat ≤ sizeLine := by decide +kernel
theorem lc9 : (repS "9" (4000 : Int).toNat).cps.all (· < 128) = true := by
  have e : (4000 : Int).toNat = 4000 := rfl
  rw [e, ← Array.all_toList, show (repS "9" 4000).cps.toList = List.replicate 4000 57 from rep1_tl rfl 4000]
  exact List.all_eq_true.mpr fun x hx => by
    rw [List.eq_of_mem_replicate hx]
    decide
/-! ### deep papers -/
def nest : Nat → Dat
  | 0 => .tup []
  | n + 1 => .tup [nest n]
theorem nest_rd : ∀ n, (nest n).rd
  | 0 => trivial
  | n + 1 => ⟨nest_rd n, trivial⟩
def deepT : Str := ((("sure " : Str) ++ repS "( " (20 : Int).toNat) ++ repS ") " (19 : Int).toNat) ++ ")"
def deepX : Str := ((("sure " : Str) ++ repS "( " (21 : Int).toNat) ++ repS ") " (20 : Int).toNat) ++ ")"
theorem pw_deep : PWs ("sure" :: Ws [nest 19]) 20 "sure" [nest 19] := ⟨rfl, ⟨by decide +kernel, by decide +kernel, nest_rd 19, trivial⟩, by decide +kernel⟩
theorem deep_txt : deepT = Txt.join " " ("sure" :: Ws [nest 19]) := by decide +kernel
def wsX : List Str := "sure" :: Ws [nest 20]
theorem deepX_txt : deepX = Txt.join " " wsX := by decide +kernel
theorem wsX_at : ∀ i : Nat, i < 21 → wsX[i + 1]? = some ("(" : Str) := by decide +kernel
theorem wsX_blank : ∀ z ∈ wsX, 32 ∉ z.cps.toList := by decide +kernel
theorem item_deep : ∀ d : Nat, d ≤ 20 → pItem wsX d (21 - d) = .error 21
  | 0, _ => by
    show pAt wsX none 21 = .error 21
    unfold pAt
    rw [wsX_at 20 (by decide)]
    simp only []
    rw [if_pos (.inl trivial)]
  | d + 1, h => by
    have ih := item_deep d (by omega)
    have e0 : wsX[21 - (d + 1)]? = some ("(" : Str) := by
      have := wsX_at (19 - d) (by omega)
      rw [show 19 - d + 1 = 21 - (d + 1) by omega] at this
      exact this
    have e1 : wsX[21 - d]? = some ("(" : Str) := by
      have := wsX_at (20 - d) (by omega)
      rw [show 20 - d + 1 = 21 - d by omega] at this
      exact this
    show pAt wsX (some (pItem wsX d)) (21 - (d + 1)) = .error 21
    unfold pAt
    rw [e0]
    simp only []
    rw [if_pos (.inl trivial)]
    unfold pDeep
    rw [if_neg (by decide +kernel)]
    have s : 21 - (d + 1) + 1 = 21 - d := by omega
    rw [s]
    rw [pLoop_err (by rw [e1]; decide +kernel) ih]
theorem wholeX : pWhole wsX = .error 21 := by
  have h := item_deep 20 (by decide)
  have e0 : wsX[0]? = some ("sure" : Str) := rfl
  have ec : counts.lookup ("sure" : Str) = some 1 := by decide +kernel
  have e : pPaper wsX (pItem wsX 20) 0 = .error 21 := by
    unfold pPaper
    rw [e0]
    simp only []
    rw [ec]
    simp only []
    rw [pSeq_err (show pItem wsX 20 (0 + 1) = .error 21 from h)]
  unfold pWhole
  rw [e]
theorem whole_other : pWhole [("other" : Str), "1"] = .error 0 := by
  have ec : counts.lookup ("other" : Str) = none := by decide +kernel
  have e : pPaper [("other" : Str), "1"] (pItem [("other" : Str), "1"] 20) 0 = .error 0 := by
    unfold pPaper
    have e1 : [("other" : Str), "1"][0]? = some ("other" : Str) := rfl
    rw [e1]
    simp only []
    rw [ec]
  unfold pWhole
  rw [e]
section
variable {K : PySem.W.Frag} {H : Hp} {Q : VK} {E : XK} {ys : List Str} {lit : Str} {k : Nat}
theorem sp_err (e : lit = Txt.join " " ys) (ne : ys ≠ []) (hb : ∀ z ∈ ys, 32 ∉ z.cps.toList) (hc : chars ys + 10 ≤ sizeLine) (he : pWhole ys = .error k) (q : ErrW K H E k) : spRead K [.str lit] H Q E := by
  rw [e]
  refine sp_join ne hb hc ?_
  rw [he]
  exact q
end
end K6
end
section -- KL8
set_option maxHeartbeats 2000000
/-! The law's last statements; the law. -/
namespace K6
open PySem PySem.Spec PyProof.Rows L2 NdefX LamX
def pdP (a b : Str) : PyData := .tuple [.str a, .str b]
def pdT (i : Int) : PyData := .tuple [.str "text", .int 0, .int i]
def pd4 : PyData := .list [pdP "paper" "paper", pdP "paper" "parts", pdP "paper" "parts", pdT 0]
def pd2 : PyData := .list [pdT 21, pdT 0]
theorem pd4_ok : SeqAt.shaped pd4 = true ∧ PyData.eqv pd4 pd4 = true := by decide +kernel
theorem pd2_ok : SeqAt.shaped pd2 = true ∧ PyData.eqv pd2 pd2 = true := by decide +kernel
section
variable {K : PySem.W.Frag} {H : Hp}
theorem dp4 {l p1 p2 p3 p4 : Addr} (el : H l = some (.lst [.ref p1, .ref p2, .ref p3, .ref p4])) (e1 : H p1 = some (.tup [.str "paper", .str "paper"])) (e2 : H p2 = some (.tup [.str "paper", .str "parts"])) (e3 : H p3 = some (.tup [.str "paper", .str "parts"])) (e4 : H p4 = some (.tup [.str "text", .int 0, .int 0])) : Dp K H (.ref l) pd4 :=
  .lst (SqL.of el) (.cons (dp_paper e1) (.cons (dp_paper e2) (.cons (dp_paper e3) (.cons (dp_text e4) .nil))))
theorem dp2 {l p1 p2 : Addr} (el : H l = some (.lst [.ref p1, .ref p2])) (e1 : H p1 = some (.tup [.str "text", .int 0, .int 21])) (e2 : H p2 = some (.tup [.str "text", .int 0, .int 0])) : Dp K H (.ref l) pd2 :=
  .lst (SqL.of el) (.cons (dp_text e1) (.cons (dp_text e2) .nil))
end
section
variable {P : Program} {w : World} {K : PySem.W.Frag} {mg : Str → Option Value} {base : Heap} {PB PL kk : Nat} {cB cL : Addr} {A : Around} {outer : List Env} {s : Shared} {H : Hp} {E : XK}
theorem st_7 (L : LawD P w K mg base PB PL kk) (hr : Room (kk + 3) (XL P w K mg base cL A outer s H E).A) : PS (XL P w K mg base cL A outer s H E) (lst_ 7) (fun D σ H => ∃ (a pn : V) (l p1 p2 p3 p4 : Addr) (x1 x2 x3 x4 x5 x6 x8 x9 x10 x12 : Option V), σ = sg a pn x1 x2 x3 x4 x5 x6 (some (.ref l)) x8 x9 x10 x12 ∧
    H l = some (.lst [.ref p1, .ref p2, .ref p3, .ref p4]) ∧ H p1 = some (.tup [.str "paper", .str "paper"]) ∧ H p2 = some (.tup [.str "paper", .str "parts"]) ∧ H p3 = some (.tup [.str "paper", .str "parts"]) ∧ H p4 = some (.tup [.str "text", .int 0, .int 0]) ∧ ∀ (H' : Hp), Same H H' → D.nx σ H') := by
  have T := L.T
  have h1 := hr.mono (show kk ≤ kk + 3 by omega)
  have h2 := hr.mono (show kk + 1 ≤ kk + 3 by omega)
  have hu := hr.units
  have mN := T.z "int" (by decide +kernel)
  refine PS.by (ps_if (PW.pt (pw_or (pt_cmpR (op_neD hu) (pv 7) (pe_lst (pa_cons (pe_tup (pa_cons pe_str (pa_cons pe_str pa_nil))) (pa_cons (pe_tup (pa_cons pe_str (pa_cons pe_str pa_nil))) (pa_cons (pe_tup (pa_cons pe_str (pa_cons pe_str pa_nil))) (pa_cons (pe_tup (pa_cons pe_str (pa_cons pe_int (pa_cons pe_int pa_nil)))) pa_nil))))) (nomark _))
    (pw_or1 (pt_cmpR op_ne (pe_d L.DT h1 passN (pa_cons (pe_mk L.MS h2 (pa_cons (pe_callTy (call_int_strL T.dg) rfl mN (by decide +kernel) (pa_cons (pe_op op_mul_str pe_str pe_int) pa_nil)) pa_nil)) pa_nil)) (pe_op op_add_str pe_str (pe_op op_mul_str pe_str pe_int)) (nomark _))))) pss_never pss_nil) fun D σ H h => ?_
  obtain ⟨a, pn, l, p1, p2, p3, p4, x1, x2, x3, x4, x5, x6, x8, x9, x10, x12, rfl, el, e1, e2, e3, e4, q⟩ := h
  have two : ([V.non, V.non] : List V).length ≤ sizeLine := by show 2 ≤ sizeLine; decide
  refine ⟨_, rfl, two, fun q1 n1 => ?_⟩
  have s1 : Same H (upd H q1 (.tup [.str "paper", .str "paper"])) := Same.new n1
  have f1 : upd H q1 (.tup [.str "paper", .str "paper"]) q1 = some (.tup [.str "paper", .str "paper"]) := upd_same
  generalize upd H q1 (.tup [.str "paper", .str "paper"]) = H1 at s1 f1 ⊢
  refine ⟨two, fun q2 n2 => ?_⟩
  have s2 : Same H1 (upd H1 q2 (.tup [.str "paper", .str "parts"])) := Same.new n2
  have f2 : upd H1 q2 (.tup [.str "paper", .str "parts"]) q2 = some (.tup [.str "paper", .str "parts"]) := upd_same
  generalize upd H1 q2 (.tup [.str "paper", .str "parts"]) = H2 at s2 f2 ⊢
  refine ⟨two, fun q3 n3 => ?_⟩
  have s3 : Same H2 (upd H2 q3 (.tup [.str "paper", .str "parts"])) := Same.new n3
  have f3 : upd H2 q3 (.tup [.str "paper", .str "parts"]) q3 = some (.tup [.str "paper", .str "parts"]) := upd_same
  generalize upd H2 q3 (.tup [.str "paper", .str "parts"]) = H3 at s3 f3 ⊢
  refine ⟨(by show 3 ≤ sizeLine; decide), fun q4 n4 => ?_⟩
  have s4 : Same H3 (upd H3 q4 (.tup [.str "text", .int 0, .int 0])) := Same.new n4
  have f4 : upd H3 q4 (.tup [.str "text", .int 0, .int 0]) q4 = some (.tup [.str "text", .int 0, .int 0]) := upd_same
  generalize upd H3 q4 (.tup [.str "text", .int 0, .int 0]) = H4 at s4 f4 ⊢
  refine ⟨(by show 4 ≤ sizeLine; decide), fun ql nl => ?_⟩
  have s5 : Same H4 (upd H4 ql (.lst [.ref q1, .ref q2, .ref q3, .ref q4])) := Same.new nl
  have f5 : upd H4 ql (.lst [.ref q1, .ref q2, .ref q3, .ref q4]) ql = some (.lst [.ref q1, .ref q2, .ref q3, .ref q4]) := upd_same
  generalize upd H4 ql (.lst [.ref q1, .ref q2, .ref q3, .ref q4]) = H5 at s5 f5 ⊢
  have s45 := s4.trans s5
  have s35 := s3.trans s45
  have s25 := s2.trans s35
  have s05 := s1.trans s25
  refine ⟨pd4, pd4, dp4 (s05 _ _ el) (s05 _ _ e1) (s05 _ _ e2) (s05 _ _ e3) (s05 _ _ e4), dp4 f5 (s25 _ _ f1) (s35 _ _ f2) (s45 _ _ f3) (s5 _ _ f4), pd4_ok.1, pd4_ok.1, _, rfl, ?_⟩
  rw [pd4_ok.2]
  obtain ⟨M, hM, tM, iM⟩ := nineZ
  have l9 : (repS "9" (4000 : Int).toNat).length = 4000 := l4 rfl
  have l9' : (repS "9" (4000 : Int).toNat).length ≤ sizeLine := by rw [l9]; decide
  have l10 : ("sure " : Str).length + (repS "9" (4000 : Int).toNat).length ≤ sizeLine := add_len l9 rfl (by decide)
  have lc := lc9
  have lm := mul9
  have iMl : (iStr M).length = 4000 := by rw [iM, l9]
  have tw : txtW "sure" [.int M] = ("sure " : Str) ++ repS "9" (4000 : Int).toNat := by
    show Txt.join " " ["sure", iStr M] = _
    rw [iM, join2]
  refine iteF ⟨_, _, rfl, rfl, by decide, by decide, lm, _, _, rfl, hM, l9', lc, ?_⟩
  intro x dx nx ndx ne
  have sm : Same H5 (upd (upd H5 dx (.own x)) x (.ins (ca K 20) dx [])) := make_same nx ndx ne
  refine ⟨x, dx, [.int M], [.int M], rfl, rfl, upd_same, (Rps.cons (.int M) .nil), rfl, (by show 1 + 0 + 4 ≤ sizeLine; decide), (by show max 0 0 ≤ 20; decide), fun H6 sb6 r6 => ⟨rfl, ?_⟩⟩
  have s6 : Same H5 H6 := fun b o e => sb6 b o (ne_of_none e nx) (sm b o e)
  have e16 : sizeLine = 16777216 := sizeLine_eq
  refine ⟨.ref x, .pap 20 "sure" [.int M], rfl, r6, rfl, (by show 5 + 4 + ((iStr M).length + 1 + 0) + 10 ≤ sizeLine; omega), ?_⟩
  rw [ptx_nine tM, tw]
  refine fun H7 s7 => ?_
  refine ⟨_, _, rfl, rfl, by decide, by decide, lm, _, _, rfl, rfl, l10, rfl, _, rfl, ?_⟩
  rw [decide_eq_true (show V.str (("sure " : Str) ++ repS "9" (4000 : Int).toNat) = V.str (("sure " : Str) ++ repS "9" (4000 : Int).toNat) from rfl)]
  refine iteF ?_
  exact q H7 (s05.trans (s6.trans s7))
theorem st_8 (L : LawD P w K mg base PB PL kk) (hr : Room (kk + 3) (XL P w K mg base cL A outer s H E).A) : PS (XL P w K mg base cL A outer s H E) (lst_ 8) (fun D σ H => ∃ (a pn : V) (x1 x2 x3 x4 x5 x6 x7 x8 x9 x10 x12 : Option V), σ = sg a pn x1 x2 x3 x4 x5 x6 x7 x8 x9 x10 x12 ∧ D.nx (sg a pn x1 x2 x3 x4 x5 x6 x7 (some (.str deepT)) x9 x10 x12) H) := by
  refine PS.by (ps_set (i := 8) sc_law.nd rfl (Or.inl rfl) (pe_op op_add_str (pe_op op_add_str (pe_op op_add_str pe_str (pe_op op_mul_str pe_str pe_int)) (pe_op op_mul_str pe_str pe_int)) pe_str)) fun D σ H h => ?_
  obtain ⟨a, pn, x1, x2, x3, x4, x5, x6, x7, x8, x9, x10, x12, rfl, q⟩ := h
  refine ⟨_, _, rfl, rfl, by decide, by decide, by decide +kernel, _, _, rfl, rfl, by decide +kernel, _, _, rfl, rfl, by decide, by decide, by decide +kernel, _, _, rfl, rfl, by decide +kernel, _, _, rfl, rfl, by decide +kernel, ?_⟩
  exact q
theorem st_9 (L : LawD P w K mg base PB PL kk) (TT : TwoT base mg cB PB cL PL) (hr : Room (kk + 3) (XL P w K mg base cL A outer s H E).A) : PS (XL P w K mg base cL A outer s H E) (lst_ 9) (fun D σ H => ∃ (a pn : V) (x1 x2 x3 x4 x5 x6 x7 x8 x9 x10 x12 : Option V), σ = sg a pn x1 x2 x3 x4 x5 x6 x7 x8 x9 x10 x12 ∧ Tabs (T2 PB PL) H ∧
    ∀ (H' : Hp) (l p1 p2 : Addr), H' l = some (.lst [.ref p1, .ref p2]) → H' p1 = some (.tup [.str "text", .int 0, .int 21]) → H' p2 = some (.tup [.str "text", .int 0, .int 0]) → D.nx (sg a pn x1 x2 x3 x4 x5 x6 (some (.ref l)) x8 x9 x10 x12) H') := by
  have G : Getter (XL P w K mg base cL A outer s H E) "_law_at_heard" "ask" (He.ga K "_law_at_heard") NHd (defScope (top 90)) qL (TTh K) := getL L
  have B : Tabled (XL P w K mg base cL A outer s H E) (T2 PB PL) cL PL := tabL TT
  refine PS.by (ps_set (i := 7) sc_law.nd rfl (Or.inl rfl) (pe_lst
    (pa_cons (pe_lam0R (k := kk + 1) G B hr (lamS_by (sc := defScope (top 94)) (by decide +kernel)) (fun A outer s H E f c' hr2 => pe_d L.DR (hr2.mono (by omega)) passL (pa_cons (pe_op op_add_str (pe_op op_add_str (pe_op op_add_str pe_str (pe_op op_mul_str pe_str pe_int)) (pe_op op_mul_str pe_str pe_int)) pe_str) pa_nil)))
    (pa_cons (pe_lam3R (k := kk + 1) (b := "a1") G B hr (lam3S_by (N := NL) (sc := defScope (top 94)) (by decide +kernel)) rfl rfl (fun _ _ _ _ _ _ _ => ⟨_, rfl, rfl⟩) (fun A outer s H E f c' hr2 => pe_d L.DR (hr2.mono (by omega)) passL (pa_cons pe_str pa_nil))) pa_nil)))) fun D σ H h => ?_
  obtain ⟨a, pn, x1, x2, x3, x4, x5, x6, x7, x8, x9, x10, x12, rfl, tb, q⟩ := h
  refine ⟨tb, fun H1 eN1 T1 H2 Q2 s2 k2 => ?_⟩
  refine ⟨_, _, rfl, rfl, by decide, by decide, by decide +kernel, _, _, rfl, rfl, by decide +kernel, _, _, rfl, rfl, by decide, by decide, by decide +kernel, _, _, rfl, rfl, by decide +kernel, _, _, rfl, rfl, by decide +kernel, ?_⟩
  refine (sp_err (lit := deepX) deepX_txt (by decide +kernel) wsX_blank (by decide +kernel) wholeX (heard_at (k := 21) fun H3 p1 s3 e1 => ?_) : spRead K [.str deepX] H2 Q2 (HeardX K _))
  have T3 := (T1.ext s2).ext s3
  refine ⟨T3, fun H4 eN4 T4 H5 Q5 s5 k5 => ?_⟩
  refine (sp_err (lit := "other 1") (ys := ["other", "1"]) (by decide +kernel) (by decide +kernel) (by decide +kernel) (by decide +kernel) whole_other (heard_at (k := 0) fun H6 p2 s6 e2 => ?_) : spRead K [.str "other 1"] H5 Q5 (HeardX K _))
  have e1_6 := (s5.trans s6) _ _ (eN4 _ _ e1 (by intro ps z; cases z))
  refine ⟨(by show 2 ≤ sizeLine; decide), fun l nl => ?_⟩
  have sl : Same H6 (upd H6 l (.lst [.ref p1, .ref p2])) := Same.new nl
  exact q _ l p1 p2 upd_same (sl _ _ e1_6) (sl _ _ e2)
theorem st_10 (L : LawD P w K mg base PB PL kk) (hr : Room (kk + 3) (XL P w K mg base cL A outer s H E).A) : PS (XL P w K mg base cL A outer s H E) (lst_ 10) (fun D σ H => ∃ (a pn : V) (l p1 p2 : Addr) (x1 x2 x3 x4 x5 x6 x9 x10 x12 : Option V), σ = sg a pn x1 x2 x3 x4 x5 x6 (some (.ref l)) (some (.str deepT)) x9 x10 x12 ∧ H l = some (.lst [.ref p1, .ref p2]) ∧ H p1 = some (.tup [.str "text", .int 0, .int 21]) ∧ H p2 = some (.tup [.str "text", .int 0, .int 0]) ∧
    ∀ (H' : Hp), D.rt (.bl true) H') := by
  have h1 := hr.mono (show kk ≤ kk + 3 by omega)
  have hu := hr.units
  refine PS.by (ps_ret (pe_and (pe_cmpR op_eq (pe_d L.DT h1 passN (pa_cons (pe_d L.DR h1 passN (pa_cons (pv 8) pa_nil)) pa_nil)) (pv 8) (nomark _))
    (pe_one (pe_cmpR (op_eqD hu) (pv 7) (pe_lst (pa_cons (pe_tup (pa_cons pe_str (pa_cons pe_int (pa_cons pe_int pa_nil)))) (pa_cons (pe_tup (pa_cons pe_str (pa_cons pe_int (pa_cons pe_int pa_nil)))) pa_nil))) (nomark _))))) fun D σ H h => ?_
  obtain ⟨a, pn, l, p1, p2, x1, x2, x3, x4, x5, x6, x9, x10, x12, rfl, el, e1, e2, q⟩ := h
  refine ⟨_, rfl, ?_⟩
  refine (sp_lit (lit := deepT) deep_txt pw_deep (by decide +kernel) fun H1 v1 s1 r1 => ?_ : spRead K [.str deepT] H _ _)
  refine sp_txt pw_deep.rd pw_deep.dp r1 (by decide +kernel) fun H2 s2 => ?_
  refine ⟨_, rfl, rfl, _, rfl, ?_⟩
  rw [decide_eq_true (show V.str (txtW "sure" [nest 19]) = V.str deepT by rw [deep_txt]; rfl)]
  refine iteT ⟨_, rfl, (by show 3 ≤ sizeLine; decide), fun q1 n1 => ?_⟩
  have s12 := s1.trans s2
  have s3 : Same H2 (upd H2 q1 (.tup [.str "text", .int 0, .int 21])) := Same.new n1
  have f3 : upd H2 q1 (.tup [.str "text", .int 0, .int 21]) q1 = some (.tup [.str "text", .int 0, .int 21]) := upd_same
  generalize upd H2 q1 (.tup [.str "text", .int 0, .int 21]) = H3 at s3 f3 ⊢
  refine ⟨(by show 3 ≤ sizeLine; decide), fun q2 n2 => ?_⟩
  have s4 : Same H3 (upd H3 q2 (.tup [.str "text", .int 0, .int 0])) := Same.new n2
  have f4 : upd H3 q2 (.tup [.str "text", .int 0, .int 0]) q2 = some (.tup [.str "text", .int 0, .int 0]) := upd_same
  generalize upd H3 q2 (.tup [.str "text", .int 0, .int 0]) = H4 at s4 f4 ⊢
  refine ⟨(by show 2 ≤ sizeLine; decide), fun ql nl => ?_⟩
  have s5 : Same H4 (upd H4 ql (.lst [.ref q1, .ref q2])) := Same.new nl
  have f5 : upd H4 ql (.lst [.ref q1, .ref q2]) ql = some (.lst [.ref q1, .ref q2]) := upd_same
  generalize upd H4 ql (.lst [.ref q1, .ref q2]) = H5 at s5 f5 ⊢
  have s15 := (s12.trans s3).trans (s4.trans s5)
  refine ⟨pd2, pd2, dp2 (s15 _ _ el) (s15 _ _ e1) (s15 _ _ e2), dp2 f5 ((s4.trans s5) _ _ f3) (s5 _ _ f4), pd2_ok.1, pd2_ok.1, ?_⟩
  rw [pd2_ok.2]
  exact q H5
def spLaw (K : PySem.W.Frag) (PB PL : Addr) : Sp := fun vs H Q _ => ∃ (a : Addr) (ns : List Int), vs = [.ref a] ∧ SqL K H a (ns.map V.int) ∧ Tabs (T2 PB PL) H ∧ ∀ H', Q (.bl true) H'
theorem ok_law (L : LawD P w K mg base PB PL kk) (TT : TwoT base mg cB PB cL PL) {fd : FuncData} (F : FnT K "law" 94 fd) (hcd : fd.code = .ref cL) : FnOk P w K mg base CX0 (kk + 4) (He.ga K "law") fd ["script"] (spLaw K PB PL) := by
  refine fn_okC F hcd sc_law (fun vs H Q E h => by obtain ⟨a, ns, rfl, _⟩ := h; rfl) fun A outer s H vs Q E hr h => ?_
  rw [body_law]
  refine ⟨_, PSs.nox (pss_cons (st_0 L hr) (pss_cons (st_1 L hr) (pss_cons (st_2 L hr) (pss_cons (st_3 L hr) (pss_cons (st_4 L hr) (pss_cons (st_5 L hr) (pss_cons (st_6 L TT hr) (pss_cons (st_7 L hr) (pss_cons (st_8 L hr) (pss_cons (st_9 L TT hr) (pss_one (st_10 L hr)))))))))))), ?_⟩
  obtain ⟨a, ns, rfl, hS, tb, q⟩ := h
  refine ⟨a, ns, rfl, hS, fun H1 pn cl cells s1 S1 => ?_⟩
  refine ⟨a, pn, cl, cells, 0, _, _, _, _, _, _, _, _, _, _, _, rfl, S1, tb.ext s1, fun H2 t2 r2 y1 y2 y3 y4 y5 y12 tb2 S2 l2 => ?_⟩
  refine ⟨_, _, _, _, _, _, _, _, _, _, _, _, _, rfl, fun H3 v s3 rv => ?_⟩
  refine ⟨_, _, v, _, _, _, _, _, _, _, _, _, _, rfl, rv, fun H4 s4 => ?_⟩
  refine fun H5 s5 => ?_
  have s25 := (s3.trans s4).trans s5
  have et : tMax = 1048576 := rfl
  refine ⟨a, pn, cl, cells, t2, r2, _, _, _, _, _, _, _, _, _, _, _, rfl, S2.mono s25, by omega, tb2.ext s25, fun H6 t6 r6 vo vb o b tb6 S6 l6 ro od rb bd => ?_⟩
  refine ⟨a, pn, cl, cells, t6, r6, vo, vb, o, b, _, _, _, _, _, _, _, _, _, rfl, S6, by omega, tb6, ro, od, rb, bd, fun H7 l p1 p2 p3 p4 tb7 el e1 e2 e3 e4 => ?_⟩
  refine ⟨_, _, l, p1, p2, p3, p4, _, _, _, _, _, _, _, _, _, _, rfl, el, e1, e2, e3, e4, fun H8 s8 => ?_⟩
  refine ⟨_, _, _, _, _, _, _, _, _, _, _, _, _, rfl, ?_⟩
  refine ⟨_, _, _, _, _, _, _, _, _, _, _, _, _, rfl, tb7.ext s8, fun H9 l9 q1 q2 el9 f1 f2 => ?_⟩
  exact ⟨_, _, l9, q1, q2, _, _, _, _, _, _, _, _, _, rfl, el9, f1, f2, fun H' => q H'⟩
end
end K6
end
section -- KHf
set_option maxHeartbeats 2000000
/-! What the head tells, as the walks lean on it (printed by gen_hf.py). -/
namespace K6
open PySem PySem.Spec PyProof.Rows L2 NdefX LamX
abbrev PR : Program := PySem.Challenge.pw_anytower_k76_texts_of_papers
section
variable {w : World} {h : Heap} {K : PySem.W.Frag} {mg : Str → Option Value} {base : Heap}
abbrev Says (w : World) (h : Heap) (K : PySem.W.Frag) : Prop := SaysH faH fnH fcs tsH tfH exH w h K
theorem fa_g {x : Str} (m : x ∈ gls) : He.Fa.glo x ∈ faH := by
  simp only [faH, List.mem_append]
  exact .inl (.inl (.inl (.inl (.inl (.inl (.inl (.inl (List.mem_map_of_mem m))))))))
theorem fa_z {x : Str} (m : x ∈ ("super" : Str) :: frees) : He.Fa.free x ∈ faH := by
  simp only [faH, List.mem_append]
  exact .inl (.inl (.inl (.inl (.inl (.inl (.inl (.inr (List.mem_map_of_mem m))))))))
theorem fa_s {x y : Str} (m : (x, y) ∈ kStrs) : He.Fa.str x y ∈ faH := by
  simp only [faH, List.mem_append]
  exact .inl (.inl (.inl (.inl (.inl (.inl (.inr (List.mem_map_of_mem (f := fun q : Str × Str => He.Fa.str q.1 q.2) m)))))))
theorem fa_i {x : Str} {n : Int} (m : (x, n) ∈ kInts) : He.Fa.int x n ∈ faH := by
  simp only [faH, List.mem_append]
  exact .inl (.inl (.inl (.inl (.inl (.inr (List.mem_map_of_mem (f := fun q : Str × Int => He.Fa.int q.1 q.2) m))))))
theorem fa_c {x : Str} (m : x ∈ ("Items" : Str) :: cnames) : He.Fa.cls x ∈ faH := by
  simp only [faH, List.mem_append]
  exact .inl (.inl (.inl (.inl (.inr (List.mem_map_of_mem m)))))
theorem fa_n {c : Nat} {f : Str} (hc : c < 24) (m : f ∈ ("word" : Str) :: "parts" :: fl c) : He.Fa.noat (cnames.getD c "Paper") f ∈ faH := by
  simp only [faH, List.mem_append]
  exact .inl (.inl (.inl (.inr (List.mem_flatMap.mpr ⟨c, List.mem_range.mpr hc, List.mem_map_of_mem (f := fun f => He.Fa.noat (cnames.getD c "Paper") f) m⟩))))
theorem fa_w : He.Fa.noat "Items" "words" ∈ faH := by
  simp only [faH, List.mem_append]
  exact .inl (.inl (.inr List.mem_cons_self))
theorem fa_a : He.Fa.noat "Items" "at" ∈ faH := by
  simp only [faH, List.mem_append]
  exact .inl (.inl (.inr (List.mem_cons_of_mem _ List.mem_cons_self)))
theorem fa_m {m : Str} (hm : m ∈ imeths) : He.Fa.meth "Items" m ∈ faH := by
  simp only [faH, List.mem_append]
  exact .inl (.inr (List.mem_map_of_mem (f := fun m => He.Fa.meth "Items" m) hm))
theorem fa_k {x : Str} (m : x ∈ ("Items" : Str) :: cnames) : He.Fa.mkr x ∈ faH := by
  simp only [faH, List.mem_append]
  exact .inr (List.mem_map_of_mem m)
theorem cnm_at {c : Nat} (hc : c < 24) : cnames.getD c "Paper" ∈ ("Items" : Str) :: cnames := by
  have g : ∀ c, c < 24 → cnames.getD c "Paper" ∈ ("Items" : Str) :: cnames := by decide +kernel
  exact g c hc
/-! ### the extra Bool -/
theorem ex_parts (c : Says w h K) : glbB K = true ∧ (∀ i, i < 24 → pcB K i = true) ∧ (∀ i, 2 ≤ i → i < 24 → subB K i = true) ∧ errB K "BadText" ["line", "word"] = true ∧ errB K "BadPaper" ["part"] = true ∧ ∀ d ∈ fcs, cloB K (He.ga K d.cls) (d.at_ K) d.qual = true := by
  obtain ⟨h1, h2⟩ := He.ba (show (glbB K && ((List.range 24).all (pcB K) && ((List.range 22).all (fun i => subB K (i + 2)) && (errB K "BadText" ["line", "word"] && (errB K "BadPaper" ["part"] && fcs.all fun d => cloB K (He.ga K d.cls) (d.at_ K) d.qual))))) = true from c.more)
  obtain ⟨h2, h3⟩ := He.ba h2
  obtain ⟨h3, h4⟩ := He.ba h3
  obtain ⟨h4, h5⟩ := He.ba h4
  obtain ⟨h5, h6⟩ := He.ba h5
  refine ⟨h1, fun i hi => List.all_eq_true.mp h2 i (List.mem_range.mpr hi), fun i h2_ hi => ?_, h4, h5, List.all_eq_true.mp h6⟩
  have z := List.all_eq_true.mp h3 (i - 2) (List.mem_range.mpr (by omega))
  rw [show i - 2 + 2 = i by omega] at z
  exact z
structure Glb (K : PySem.W.Frag) : Prop where
  b0 : PySem.W.isFn K (.ref (He.ma K (ca K 0) "__bool__")) = true
  b1 : PySem.W.isFn K (.ref (He.ma K (ca K 1) "__bool__")) = true
  e0 : PySem.W.isFn K (.ref (He.ma K (ca K 0) "__eq__")) = true
  dg : PySem.W.nsIn K cStatics "sys.int_max_str_digits" = some none
  op : PySem.W.nsIn K cStatics "thirdparty.any" = some none
  nm : numB K = true
  kP : ∀ n ∈ (["NoneType", "int", "bool", "str", "list", "tuple", "dict"] : List String), PySem.W.kitOne K (.type n) (.ref (ca K 0)) = some false
  ht : PySem.W.takesIn K (.builtin "object.__class__") = some true
  hn : PySem.W.specialIn K (.builtin "object.__class__") "__get__" = some (some (.builtin "getset_descriptor.__get__"))
  kL : PySem.W.kitOne K (.ref (ca K 11)) (.ref (ca K 11)) = some true
  ty : PySem.W.typeIn K (.ref (He.ma K (ca K 0) "__init__")) = some (.type "function")
  fn : PySem.W.fnIn K (He.ma K (ca K 0) "__init__") = true
  m1 : PySem.W.makesIn K (ca K 1) = true
  i1 : PySem.W.findIn K (.ref (ca K 1)) "__init__" = some (some (.ref (He.ma K (ca K 0) "__init__")))
  tt : (He.cT K ("_law_bent_right", none)).2 ≠ (He.cT K ("law", none)).2
theorem glb_of (h : glbB K = true) : Glb K := by
  unfold glbB at h
  obtain ⟨h1, h⟩ := He.ba h
  obtain ⟨h2, h⟩ := He.ba h
  obtain ⟨h3, h⟩ := He.ba h
  obtain ⟨h4, h⟩ := He.ba h
  obtain ⟨h5, h⟩ := He.ba h
  obtain ⟨h6, h⟩ := He.ba h
  obtain ⟨h7, h⟩ := He.ba h
  obtain ⟨h8, h⟩ := He.ba h
  obtain ⟨h9, h⟩ := He.ba h
  obtain ⟨h10, h⟩ := He.ba h
  obtain ⟨h11, h⟩ := He.ba h
  obtain ⟨h12, h⟩ := He.ba h
  obtain ⟨h13, h⟩ := He.ba h
  obtain ⟨h14, h15⟩ := He.ba h
  exact ⟨h1, h2, h3, He.eqO_ok h4, He.eqO_ok h5, h6, fun n m => of_decide_eq_true (List.all_eq_true.mp h7 n m), of_decide_eq_true h8, He.eqO_ok h9, of_decide_eq_true h10, of_decide_eq_true h11, h12, h13, He.eqO_ok h14, fun e => by
    rw [e, beq_self_eq_true] at h15
    cases h15⟩
structure PcF (K : PySem.W.Frag) (c : Nat) : Prop where
  ha : PySem.W.findIn K (.ref (ca K c)) "__class__" = some (some (.builtin "object.__class__"))
  hm : PySem.W.mroIn K (ca K c) (.type "object") = some true
  bo : PySem.W.findIn K (.ref (ca K c)) "__bool__" = some (some (.ref (He.ma K (ca K (if den c then 1 else 0)) "__bool__")))
  eq : PySem.W.findIn K (.ref (ca K c)) "__eq__" = some (some (.ref (He.ma K (ca K 0) "__eq__")))
  kB : ∀ n ∈ (["int", "bool", "str", "list", "tuple"] : List String), PySem.W.kitOne K (.ref (ca K c)) (.type n) = some false
  kP : PySem.W.kitOne K (.ref (ca K c)) (.ref (ca K 0)) = some true
  kD : PySem.W.kitOne K (.ref (ca K c)) (.ref (ca K 1)) = some (den c)
  ne : PySem.W.findIn K (.ref (ca K c)) "__ne__" = some (some (.builtin "object.__ne__"))
theorem pcF_of {c : Nat} (h : pcB K c = true) : PcF K c := by
  unfold pcB at h
  obtain ⟨h1, h⟩ := He.ba h
  obtain ⟨h2, h⟩ := He.ba h
  obtain ⟨h3, h⟩ := He.ba h
  obtain ⟨h4, h⟩ := He.ba h
  obtain ⟨h5, h⟩ := He.ba h
  obtain ⟨h6, h⟩ := He.ba h
  obtain ⟨h7, h8⟩ := He.ba h
  exact ⟨He.eqO_ok h1, of_decide_eq_true h2, He.eqO_ok h3, He.eqO_ok h4, fun n m => of_decide_eq_true (List.all_eq_true.mp h5 n m), of_decide_eq_true h6, of_decide_eq_true h7, He.eqO_ok h8⟩
/-! ### Txt -/
theorem pc_of (c : Says w h K) {i : Nat} (hi : i < 24) : PC K i := by
  obtain ⟨g, p, _⟩ := ex_parts c
  have G := glb_of g
  have F := pcF_of (p i hi)
  have d := c.t.d
  exact ⟨He.cls_ok (d.facts (fa_c (cnm_at hi))), He.noat_ok (d.facts (fa_n hi List.mem_cons_self)), He.noat_ok (d.facts (fa_n hi (List.mem_cons_of_mem _ List.mem_cons_self))), fun f hf => He.noat_ok (d.facts (fa_n hi (List.mem_cons_of_mem _ (List.mem_cons_of_mem _ hf)))),
    F.ha, G.ht, G.hn, F.hm, F.bo, F.eq, F.kB, F.kP, F.kD⟩
theorem isStr_lit {z x : Str} {u : Value} {t : Tok} (e : u = .str z t) : u.isStr x = (z == x) := by
  subst e
  rfl
theorem dic_none {a : Addr} {ks : List Str} {z : Str} (e : He.dicW K a = some (He.keysIn w.params ks)) (hz : z ∉ ks) : PySem.W.nsIn K a z = some none := by
  unfold He.dicW at e
  split at e
  · rename_i tc es nn sl q
    split at e
    · have e := Option.some.inj e
      unfold PySem.W.nsIn
      rw [q]
      have key : ∀ (l : List DictEntry) (ks : List Str), l.map He.keyOf = He.keysIn w.params ks → z ∉ ks → l.find? (·.key.isStr z) = none ∧ l.any (·.refKey) = false := by
        intro l
        induction l with
        | nil => exact fun _ _ _ => ⟨rfl, rfl⟩
        | cons x r ih =>
          intro ks e hz
          cases ks with
          | nil => cases e
          | cons k ks =>
            have e2 : He.keyOf x :: r.map He.keyOf = some (k, PyData.keyHash w.params k) :: He.keysIn w.params ks := e
            injection e2 with e3 e4
            obtain ⟨i1, i2⟩ := ih ks e4 fun m => hz (List.mem_cons_of_mem _ m)
            obtain ⟨t, hk⟩ : ∃ t, x.key = .str k t := by
              unfold He.keyOf at e3
              split at e3
              · rename_i y t q
                have e5 := Option.some.inj e3
                exact ⟨t, by rw [q, (Prod.mk.inj e5).1]⟩
              · cases e3
            have f1 : x.key.isStr z = false := by
              rw [isStr_lit hk]
              exact beq_eq_false_iff_ne.mpr fun e => hz (by rw [← e]; exact List.mem_cons_self)
            have f2 : x.refKey = false := by
              unfold DictEntry.refKey
              rw [hk]
            refine ⟨?_, ?_⟩
            · rw [List.find?_cons_of_neg (by rw [f1]; exact Bool.false_ne_true)]
              exact i1
            · rw [List.any_cons, f2, i2]
              rfl
      obtain ⟨k1, k2⟩ := key es.toList ks e hz
      show (match es.toList.find? (·.key.isStr z) with
        | some e => some (some e.val)
        | none => if es.toList.any (·.refKey) then none else some none) = some none
      rw [k1, k2]
      rfl
    · cases e
  · cases e
theorem lookup_none {z : Str} : ∀ {l : List (Str × Nat)}, l.lookup z = none → z ∉ l.map (·.1)
  | [], _ => List.not_mem_nil
  | (k, n) :: r, h => by
    rw [List.lookup] at h
    split at h
    · cases h
    · rename_i q
      intro m
      rcases List.mem_cons.mp m with m | m
      · have m : z = k := m
        rw [m, beq_self_eq_true] at q
        cases q
      · exact lookup_none h m
theorem txt_of (X : K.In h) (G : h.Ns mainGlobals mg) (c : Says w h K) : Txt w K mg := by
  obtain ⟨g, p, _⟩ := ex_parts c
  have B := glb_of g
  have d := c.t.d
  have tb : He.dicW K (He.ga K "COUNTS") = some (He.keysIn w.params (counts.map (·.1))) := by
    have e : tsH.map (fun t => He.dicW K (t.1 K)) = tsH.map fun t => some (He.keysIn w.params t.2) := congrArg (fun z : He.AlT => z.2) c.t
    have e2 : [He.dicW K (He.ga K "COUNTS")] = [some (He.keysIn w.params (counts.map (·.1)))] := e
    injection e2
  have cV : ∀ (z : Str) (n : Nat), counts.lookup z = some n → ∃ t, PySem.W.nsIn K (He.ga K "COUNTS") z = some (some (.int n t)) := fun z n e => by
    have q : (match PySem.W.nsIn K (He.ga K "COUNTS") z with
      | some (some (.int i _)) => decide (i = (n : Int))
      | _ => false) = true := List.all_eq_true.mp B.nm _ (lookup_memK e)
    split at q
    · rename_i i t e1
      exact ⟨t, by rw [e1, of_decide_eq_true q]⟩
    · cases q
  exact ⟨fun x m => He.glo_ok X G (d.facts (fa_g m)), fun x m => He.free_ok X G (d.facts (fa_z (List.mem_cons_of_mem _ m))), fun x y m => He.str_ok X G (d.facts (fa_s m)), fun x n m => He.int_ok X G (d.facts (fa_i m)), fun i hi => pc_of c hi, B.b0, B.b1, B.e0, B.dg, He.dicW_ok tb, cV, fun z e => dic_none tb (lookup_none e), B.kP⟩
/-! ### methods with the cell __class__ -/
theorem sup_of (c : Says w h K) (i : Nat) {d : DefC} (hi : fcs[i]? = some d) (hc : PySem.W.isClsIn K (He.ga K d.cls) = true) :
    ∃ (oc : Value) (od : Option Addr) (kV doc pm : Value) (an : Option Addr) (ct : Value) (osl : Array (Option Value)) (cc cda : Addr),
      K.lookup (d.at_ K) = some ⟨oc, od, .func (PySem.W.fnX d.m d.qual (defArgs d.st) (defBody d.st) (defScope d.st) [("__class__", cc)] .none kV doc pm an (.ref cda) ct), osl⟩ ∧ PySem.W.codeIn K (.ref cda) d.qual = true ∧ SupF K PR (He.ga K d.cls) cc cda := by
  obtain ⟨g, _, _, _, _, q⟩ := ex_parts c
  have B := glb_of g
  have e2 : (fcs.map fun d => fnC K (d.at_ K))[i]? = (fcs.map DefC.val)[i]? := by rw [c.c]
  rw [List.getElem?_map, List.getElem?_map, hi] at e2
  have e3 : fnC K (d.at_ K) = d.val := Option.some.inj e2
  obtain ⟨oc, od, kV, doc, pm, an, ct, osl, cc, cda, lk, hcd, cell, code⟩ := cloB_ok (C := He.ga K d.cls) e3 (q d (List.mem_of_getElem? hi))
  exact ⟨oc, od, kV, doc, pm, an, ct, osl, cc, cda, lk, hcd, ⟨cell, Option.isSome_iff_exists.mp hc, code, He.eqO_ok (c.t.d.facts (fa_z List.mem_cons_self)), B.op, by decide +kernel⟩⟩
structure SubF (K : PySem.W.Frag) (c : Nat) : Prop where
  mro : PySem.W.mroIn K (ca K c) (.ref (ca K c)) = some true
  sup : PySem.W.ks_superIn K (ca K c) (ca K c) "__init__" = some (some (.ref (He.ma K (ca K 0) "__init__")))
  cl : PySem.W.isClsIn K (ca K c) = true
theorem subF_of {c : Nat} (h : subB K c = true) : SubF K c := by
  unfold subB at h
  obtain ⟨h1, h⟩ := He.ba h
  obtain ⟨h2, h3⟩ := He.ba h
  exact ⟨of_decide_eq_true h1, He.eqO_ok h2, h3⟩
theorem subC_of (c : Says w h K) (i n : Nat) {qual : Str} {st : Stmt} (h2 : 2 ≤ n) (hn : n < 24) (hi : fcs[i]? = some ⟨cnames.getD n "Paper", "__init__", qual, st⟩) : SubC PR K n qual st := by
  obtain ⟨g, _, s, _⟩ := ex_parts c
  have B := glb_of g
  have S := subF_of (s n h2 hn)
  exact ⟨sup_of c i hi S.cl, S.mro, S.sup, B.ty, B.fn, He.mkr_ok (c.t.d.facts (fa_k (cnm_at hn)))⟩
/-! ### errors -/
structure ErF (K : PySem.W.Frag) (nm : Str) (fs : List Str) : Prop where
  ox : oexB K (He.ga K nm) = true
  mro : PySem.W.mroIn K (He.ga K nm) (.ref (He.ga K nm)) = some true
  ve : PySem.W.subIn K (.ref (He.ga K nm)) (.type "ValueError") = some true
  sup : PySem.W.ks_superIn K (He.ga K nm) (He.ga K nm) "__init__" = some (some (.builtin "ValueError.__init__"))
  iC : PySem.W.findIn K (.ref (He.ga K nm)) "__init__" = some (some (.ref (He.ma K (He.ga K nm) "__init__")))
  tI : PySem.W.typeIn K (.ref (He.ma K (He.ga K nm) "__init__")) = some (.type "function")
  no : ∀ f ∈ fs, PySem.W.findIn K (.ref (He.ga K nm)) f = some none
  xf : XfC K (He.ga K nm)
  ha : PySem.W.findIn K (.ref (He.ga K nm)) "__class__" = some (some (.builtin "object.__class__"))
  hm : PySem.W.mroIn K (He.ga K nm) (.type "object") = some true
  tw : PySem.W.exmOne K (.ref (He.ga K nm)) (.ref (He.ga K "TowerError")) = some true
  kit : ∀ D ∈ errs, PySem.W.kitOne K (.ref (He.ga K nm)) (.ref (He.ga K D)) = some (decide (D = nm))
  cl : PySem.W.isClsIn K (He.ga K nm) = true
theorem erF_of {nm : Str} {fs : List Str} (h : errB K nm fs = true) : ErF K nm fs := by
  unfold errB at h
  obtain ⟨h1, h⟩ := He.ba h
  obtain ⟨h2, h⟩ := He.ba h
  obtain ⟨h3, h⟩ := He.ba h
  obtain ⟨h4, h⟩ := He.ba h
  obtain ⟨h5, h⟩ := He.ba h
  obtain ⟨h6, h⟩ := He.ba h
  obtain ⟨h7, h⟩ := He.ba h
  obtain ⟨h8, h⟩ := He.ba h
  obtain ⟨h9, h⟩ := He.ba h
  obtain ⟨h10, h⟩ := He.ba h
  obtain ⟨h11, h⟩ := He.ba h
  obtain ⟨h12, h13⟩ := He.ba h
  exact ⟨h1, of_decide_eq_true h2, of_decide_eq_true h3, He.eqO_ok h4, He.eqO_ok h5, of_decide_eq_true h6, fun f m => He.eqO_ok (List.all_eq_true.mp h7 f m), xfB_ok h8, He.eqO_ok h9, of_decide_eq_true h10, of_decide_eq_true h11, fun D m => of_decide_eq_true (List.all_eq_true.mp h12 D m), h13⟩
theorem oex_of {C : Addr} (h : oexB K C = true) : OexC K C := by
  unfold oexB at h
  obtain ⟨h0, h⟩ := He.ba h
  obtain ⟨h1, h⟩ := He.ba h
  obtain ⟨h2, h⟩ := He.ba h
  obtain ⟨h3, h4⟩ := He.ba h
  refine ⟨?_, He.eqO_ok h1, of_decide_eq_true h2, of_decide_eq_true h3, h4⟩
  split at h0
  · rename_i tn dd cd sl ho
    obtain ⟨k0, k⟩ := He.ba h0
    split at k
    · rename_i C' bm hm
      split at k
      · rename_i k0_ k1 k2 k3 n k5 hs
        obtain ⟨g1, k⟩ := He.ba k
        obtain ⟨g2, k⟩ := He.ba k
        obtain ⟨g3, k⟩ := He.ba k
        obtain ⟨g4, g5⟩ := He.ba k
        obtain ⟨nm, bs, mro, ns, qn, hd, sn, sub, ab, col, del⟩ := cd
        have e0 := of_decide_eq_true k0
        have e1 := of_decide_eq_true g1
        have e2 := of_decide_eq_true g2
        have e3 : del = false := by simpa using g3
        have e4 : hd = true := g4
        have e5 : mro = .ref C' :: bm := hm
        subst e0 e1 e2 e3 e4 e5
        have hsl : sl = #[k0_, k1, k2, k3, some (.builtin "ValueError.__new__"), k5] := by
          obtain ⟨l⟩ := sl
          have hs : l = [k0_, k1, k2, k3, some (.builtin "ValueError.__new__"), k5] := hs
          rw [hs]
        subst hsl
        exact ⟨_, _, _, _, _, _, _, _, _, _, _, _, _, _, _, ho, g5⟩
      · cases k
    · cases k
  · cases h0
theorem excC_of (c : Says w h K) (i : Nat) {nm qual : Str} {st : Stmt} {fs : List Str} (hi : fcs[i]? = some ⟨nm, "__init__", qual, st⟩) (e : errB K nm fs = true) : ExC PR K nm qual st fs := by
  have F := erF_of e
  exact ⟨sup_of c i hi F.cl, oex_of F.ox, F.mro, F.ve, F.sup, F.iC, F.tI, F.no⟩
theorem hdC_of (c : Says w h K) {nm : Str} {fs : List Str} (e : errB K nm fs = true) : HdC K nm fs := by
  obtain ⟨g, _⟩ := ex_parts c
  have B := glb_of g
  have F := erF_of e
  exact ⟨⟨F.xf.ga, F.xf.gg, F.xf.exC, F.xf.hdC, F.ha, B.hn, B.ht, F.hm⟩, F.xf, F.tw, F.kit, F.no⟩
theorem itC_of (c : Says w h K) : ItC K := by
  have d := c.t.d
  exact ⟨He.cls_ok (d.facts (fa_c List.mem_cons_self)), He.noat_ok (d.facts fa_w), He.noat_ok (d.facts fa_a), fun m hm => He.meth_ok (d.facts (fa_m hm)), He.mkr_ok (d.facts (fa_k List.mem_cons_self))⟩
/-! ### the bag -/
theorem fnOk_mono {P : Program} {CX : CXT} {k k' : Nat} {f : Addr} {fd : FuncData} {ps : List Str} {sp : Sp} (F : FnOk P w K mg base CX k f fd ps sp) (h : k ≤ k') : FnOk P w K mg base CX k' f fd ps sp := ⟨F.len, fun A outer s H args us vs Q E hr => F.run A outer s H args us vs Q E (hr.mono h)⟩
theorem mkOk_mono {P : Program} {k k' n c : Nat} {nm : Str} {ps : List Str} {z : Str} (M : MkOk P w K mg base k n c nm ps z) (h : k ≤ k') : MkOk P w K mg base k' n c nm ps z := by
  obtain ⟨mk, m, fd, F, b⟩ := M
  exact ⟨mk, m, fd, fnOk_mono F h, b⟩
theorem def_at (c : Says w h K) (i : Nat) {x : Str} {j : Nat} (hi : fnH[i]? = some (dF x j)) : ∃ fd, FnT K x j fd := c.t.d.def_ i (d := dF x j) hi
theorem meth_at (c : Says w h K) (i : Nat) {cl x qual : Str} {j k : Nat} (hi : fnH[i]? = some (dM cl x qual j k)) : ∃ fd, MtT K cl x qual j k fd := c.t.d.def_ i (d := dM cl x qual j k) hi
theorem law_bag {mg : Str → Option Value} (T : Txt w K mg) (c : Says w h K) {cB PB cL PL : Addr} (TT : TwoT base mg cB PB cL PL) (hB : ∀ fd, FnT K "_law_bent_right" 93 fd → fd.code = .ref cB) : LawD PR w K mg base PB PL 106 := by
  obtain ⟨g, p, _, e1, e2, _⟩ := ex_parts c
  have GB := glb_of g
  have hT := hdC_of c e1
  have hP := hdC_of c e2
  have IC := itC_of c
  obtain ⟨f_is_integer, F_is_integer⟩ := def_at c 0 (x := "is_integer") (j := 4) rfl
  obtain ⟨f_is_name, F_is_name⟩ := def_at c 1 (x := "is_name") (j := 5) rfl
  obtain ⟨f_fixed, F_fixed⟩ := def_at c 2 (x := "fixed") (j := 25) rfl
  obtain ⟨f_is_like, F_is_like⟩ := def_at c 3 (x := "is_like") (j := 26) rfl
  obtain ⟨f_of_towers, F_of_towers⟩ := def_at c 4 (x := "of_towers") (j := 68) rfl
  obtain ⟨f_of_games, F_of_games⟩ := def_at c 5 (x := "of_games") (j := 69) rfl
  obtain ⟨f_of_heights, F_of_heights⟩ := def_at c 6 (x := "of_heights") (j := 70) rfl
  obtain ⟨f_of_sites, F_of_sites⟩ := def_at c 7 (x := "of_sites") (j := 71) rfl
  obtain ⟨f_parts_count, F_parts_count⟩ := def_at c 8 (x := "parts_count") (j := 72) rfl
  obtain ⟨f_made, F_made⟩ := def_at c 9 (x := "made") (j := 73) rfl
  obtain ⟨f_has_text, F_has_text⟩ := def_at c 10 (x := "has_text") (j := 79) rfl
  obtain ⟨f_words_of, F_words_of⟩ := def_at c 11 (x := "words_of") (j := 80) rfl
  obtain ⟨f_is_written, F_is_written⟩ := def_at c 12 (x := "is_written") (j := 81) rfl
  obtain ⟨f_take_whole, F_take_whole⟩ := def_at c 13 (x := "take_whole") (j := 83) rfl
  obtain ⟨f_paper_text, F_paper_text⟩ := def_at c 14 (x := "paper_text") (j := 84) rfl
  obtain ⟨f_read_paper, F_read_paper⟩ := def_at c 15 (x := "read_paper") (j := 85) rfl
  obtain ⟨f__law_pen, F__law_pen⟩ := def_at c 16 (x := "_law_pen") (j := 87) rfl
  obtain ⟨f__law_draw, F__law_draw⟩ := def_at c 17 (x := "_law_draw") (j := 88) rfl
  obtain ⟨f__law_pick, F__law_pick⟩ := def_at c 18 (x := "_law_pick") (j := 89) rfl
  obtain ⟨f__law_at_heard, F__law_at_heard⟩ := def_at c 19 (x := "_law_at_heard") (j := 90) rfl
  obtain ⟨f__law_counts, F__law_counts⟩ := def_at c 20 (x := "_law_counts") (j := 91) rfl
  obtain ⟨f__law_value, F__law_value⟩ := def_at c 21 (x := "_law_value") (j := 92) rfl
  obtain ⟨f__law_bent_right, F__law_bent_right⟩ := def_at c 22 (x := "_law_bent_right") (j := 93) rfl
  obtain ⟨m_pi, M_pi⟩ := meth_at c 24 (cl := "Paper") (x := "__init__") (qual := "Paper.__init__") (j := 27) (k := 0) rfl
  obtain ⟨m_pe, M_pe⟩ := meth_at c 25 (cl := "Paper") (x := "__eq__") (qual := "Paper.__eq__") (j := 27) (k := 1) rfl
  obtain ⟨m_pb, M_pb⟩ := meth_at c 26 (cl := "Paper") (x := "__bool__") (qual := "Paper.__bool__") (j := 27) (k := 2) rfl
  obtain ⟨m_db, M_db⟩ := meth_at c 27 (cl := "Denial") (x := "__bool__") (qual := "Denial.__bool__") (j := 28) (k := 0) rfl
  obtain ⟨m_i0, M_i0⟩ := meth_at c 28 (cl := "Items") (x := "__init__") (qual := "Items.__init__") (j := 82) (k := 0) rfl
  obtain ⟨m_i1, M_i1⟩ := meth_at c 29 (cl := "Items") (x := "stop") (qual := "Items.stop") (j := 82) (k := 1) rfl
  obtain ⟨m_i2, M_i2⟩ := meth_at c 30 (cl := "Items") (x := "ahead") (qual := "Items.ahead") (j := 82) (k := 2) rfl
  obtain ⟨m_i3, M_i3⟩ := meth_at c 31 (cl := "Items") (x := "take") (qual := "Items.take") (j := 82) (k := 3) rfl
  obtain ⟨m_i4, M_i4⟩ := meth_at c 32 (cl := "Items") (x := "take_word") (qual := "Items.take_word") (j := 82) (k := 4) rfl
  obtain ⟨m_i5, M_i5⟩ := meth_at c 33 (cl := "Items") (x := "take_paper") (qual := "Items.take_paper") (j := 82) (k := 5) rfl
  obtain ⟨m_i6, M_i6⟩ := meth_at c 34 (cl := "Items") (x := "take_item") (qual := "Items.take_item") (j := 82) (k := 6) rfl
  obtain ⟨m_i7, M_i7⟩ := meth_at c 35 (cl := "Items") (x := "take_deep") (qual := "Items.take_deep") (j := 82) (k := 7) rfl
  have FP : FnR PR w K mg base CX0 23 (He.ma K (ca K 0) "__init__") (spPap K 20) := d_pap T M_pi F_fixed 20
  have S_2 := subC_of c 0 2 (qual := "Alike.__init__") (st := inClass (top 32) 0) (by decide) (by decide) rfl
  have K_2 : MkOk PR w K mg base 24 20 2 "Alike" ["self", "lacks"] "alike" := ⟨S_2.mkr, T.g "Alike" (by decide +kernel), d_Alike T S_2 FP⟩
  have S_3 := subC_of c 1 3 (qual := "Apart.__init__") (st := inClass (top 33) 0) (by decide) (by decide) rfl
  have K_3 : MkOk PR w K mg base 24 20 3 "Apart" ["self", "kind", "lacks"] "apart" := ⟨S_3.mkr, T.g "Apart" (by decide +kernel), d_Apart T S_3 FP⟩
  have S_4 := subC_of c 2 4 (qual := "Bounded.__init__") (st := inClass (top 35) 0) (by decide) (by decide) rfl
  have K_4 : MkOk PR w K mg base 24 20 4 "Bounded" ["self", "most", "told", "partings", "rows"] "bounded" := ⟨S_4.mkr, T.g "Bounded" (by decide +kernel), d_Bounded T S_4 FP⟩
  have S_5 := subC_of c 3 5 (qual := "Deal.__init__") (st := inClass (top 38) 0) (by decide) (by decide) rfl
  have K_5 : MkOk PR w K mg base 24 20 5 "Deal" ["self", "trees"] "deal" := ⟨S_5.mkr, T.g "Deal" (by decide +kernel), d_Deal T S_5 FP⟩
  have S_6 := subC_of c 4 6 (qual := "Every.__init__") (st := inClass (top 43) 0) (by decide) (by decide) rfl
  have K_6 : MkOk PR w K mg base 24 20 6 "Every" ["self", "rows"] "every" := ⟨S_6.mkr, T.g "Every" (by decide +kernel), d_Every T S_6 FP⟩
  have S_7 := subC_of c 5 7 (qual := "Fallen.__init__") (st := inClass (top 44) 0) (by decide) (by decide) rfl
  have K_7 : MkOk PR w K mg base 24 20 7 "Fallen" ["self", "told", "groups"] "fallen" := ⟨S_7.mkr, T.g "Fallen" (by decide +kernel), d_Fallen T S_7 FP⟩
  have S_8 := subC_of c 6 8 (qual := "Falls.__init__") (st := inClass (top 54) 0) (by decide) (by decide) rfl
  have K_8 : MkOk PR w K mg base 24 20 8 "Falls" ["self", "rows"] "falls" := ⟨S_8.mkr, T.g "Falls" (by decide +kernel), d_Falls T S_8 FP⟩
  have S_9 := subC_of c 7 9 (qual := "Grows.__init__") (st := inClass (top 36) 0) (by decide) (by decide) rfl
  have K_9 : MkOk PR w K mg base 24 20 9 "Grows" ["self", "before", "again", "after", "partings"] "grows" := ⟨S_9.mkr, T.g "Grows" (by decide +kernel), d_Grows T S_9 FP⟩
  have S_10 := subC_of c 8 10 (qual := "Lack.__init__") (st := inClass (top 30) 0) (by decide) (by decide) rfl
  have K_10 : MkOk PR w K mg base 24 20 10 "Lack" ["self", "number", "groups", "rods", "trees"] "lack" := ⟨S_10.mkr, T.g "Lack" (by decide +kernel), d_Lack T S_10 FP⟩
  have S_11 := subC_of c 9 11 (qual := "Lots.__init__") (st := inClass (top 49) 0) (by decide) (by decide) rfl
  have K_11 : MkOk PR w K mg base 24 20 11 "Lots" ["self", "least", "greatest"] "lots" := ⟨S_11.mkr, T.g "Lots" (by decide +kernel), d_Lots T S_11 FP⟩
  have S_12 := subC_of c 10 12 (qual := "Mean.__init__") (st := inClass (top 51) 0) (by decide) (by decide) rfl
  have K_12 : MkOk PR w K mg base 24 20 12 "Mean" ["self", "top", "bottom", "rows", "before", "again", "after", "partings"] "mean" := ⟨S_12.mkr, T.g "Mean" (by decide +kernel), d_Mean T S_12 FP⟩
  have S_13 := subC_of c 11 13 (qual := "Played.__init__") (st := inClass (top 56) 0) (by decide) (by decide) rfl
  have K_13 : MkOk PR w K mg base 24 20 13 "Played" ["self", "laid", "picks", "place", "end"] "played" := ⟨S_13.mkr, T.g "Played" (by decide +kernel), d_Played T S_13 FP⟩
  have S_14 := subC_of c 12 14 (qual := "Repeated.__init__") (st := inClass (top 58) 0) (by decide) (by decide) rfl
  have K_14 : MkOk PR w K mg base 24 20 14 "Repeated" ["self", "first", "period", "step", "lacks", "window", "steps"] "repeated" := ⟨S_14.mkr, T.g "Repeated" (by decide +kernel), d_Repeated T S_14 FP⟩
  have S_15 := subC_of c 13 15 (qual := "Safe.__init__") (st := inClass (top 53) 0) (by decide) (by decide) rfl
  have K_15 : MkOk PR w K mg base 24 20 15 "Safe" ["self", "rows"] "safe" := ⟨S_15.mkr, T.g "Safe" (by decide +kernel), d_Safe T S_15 FP⟩
  have S_16 := subC_of c 14 16 (qual := "Same.__init__") (st := inClass (top 60) 0) (by decide) (by decide) rfl
  have K_16 : MkOk PR w K mg base 24 20 16 "Same" ["self", "rows"] "same" := ⟨S_16.mkr, T.g "Same" (by decide +kernel), d_Same T S_16 FP⟩
  have S_17 := subC_of c 15 17 (qual := "Series.__init__") (st := inClass (top 63) 0) (by decide) (by decide) rfl
  have K_17 : MkOk PR w K mg base 24 20 17 "Series" ["self", "top", "bottom"] "series" := ⟨S_17.mkr, T.g "Series" (by decide +kernel), d_Series T S_17 FP⟩
  have S_18 := subC_of c 16 18 (qual := "Short.__init__") (st := inClass (top 39) 0) (by decide) (by decide) rfl
  have K_18 : MkOk PR w K mg base 24 20 18 "Short" ["self", "groups"] "short" := ⟨S_18.mkr, T.g "Short" (by decide +kernel), d_Short T S_18 FP⟩
  have S_19 := subC_of c 17 19 (qual := "Stands.__init__") (st := inClass (top 41) 0) (by decide) (by decide) rfl
  have K_19 : MkOk PR w K mg base 24 20 19 "Stands" ["self", "rows"] "stands" := ⟨S_19.mkr, T.g "Stands" (by decide +kernel), d_Stands T S_19 FP⟩
  have S_20 := subC_of c 18 20 (qual := "Sure.__init__") (st := inClass (top 46) 0) (by decide) (by decide) rfl
  have K_20 : MkOk PR w K mg base 24 20 20 "Sure" ["self", "rows"] "sure" := ⟨S_20.mkr, T.g "Sure" (by decide +kernel), d_Sure T S_20 FP⟩
  have S_21 := subC_of c 19 21 (qual := "Unlike.__init__") (st := inClass (top 61) 0) (by decide) (by decide) rfl
  have K_21 : MkOk PR w K mg base 24 20 21 "Unlike" ["self", "told"] "unlike" := ⟨S_21.mkr, T.g "Unlike" (by decide +kernel), d_Unlike T S_21 FP⟩
  have S_22 := subC_of c 20 22 (qual := "Unsure.__init__") (st := inClass (top 47) 0) (by decide) (by decide) rfl
  have K_22 : MkOk PR w K mg base 24 20 22 "Unsure" ["self", "rows"] "unsure" := ⟨S_22.mkr, T.g "Unsure" (by decide +kernel), d_Unsure T S_22 FP⟩
  have S_23 := subC_of c 21 23 (qual := "Worth.__init__") (st := inClass (top 65) 0) (by decide) (by decide) rfl
  have K_23 : MkOk PR w K mg base 24 20 23 "Worth" ["self", "price", "rows", "others"] "worth" := ⟨S_23.mkr, T.g "Worth" (by decide +kernel), d_Worth T S_23 FP⟩
  have D1 := d_of_towers T F_of_towers K_2 K_3 K_5 K_10 K_18 K_19
  have D2 := d_of_games T F_of_games K_6 K_7 K_8 K_13 K_15 K_20 K_22
  have D3 := d_of_heights T F_of_heights K_4 K_9 K_12 K_14 K_17
  have D4 := d_of_sites T F_of_sites K_11 K_16 K_21 K_23
  have DM := (d_made T F_made D1 D2 D3 D4).mono (k' := 40) (by decide)
  have EB := excC_of c 22 (nm := "BadText") (qual := "BadText.__init__") (st := stBT) rfl e1
  have EP := excC_of c 23 (nm := "BadPaper") (qual := "BadPaper.__init__") (st := stBP) rfl e2
  have OB : XOk PR w K mg base "BadText" ["self", "line", "word"] (spX2 K "BadText" "line" "word") := ⟨EB.oex, EB.iC, EB.tI, T.g "BadText" (by decide +kernel), d_BT EB⟩
  have OP : XOk PR w K mg base "BadPaper" ["self", "part"] (spX1 K "BadPaper" "part") := ⟨EP.oex, EP.iC, EP.tI, T.g "BadPaper" (by decide +kernel), d_BP EP⟩
  have IA := d_ahead (P := PR) (base := base) T IC M_i2
  have IS := d_stop T IC OB M_i1
  obtain ⟨_, IP⟩ := d_levels T IC OB F_is_written F_is_name F_parts_count M_i1 M_i2 M_i3 M_i4 M_i5 M_i6 M_i7 DM 21 (by decide)
  have IP : Mtd PR w K mg base (L2.CX PR w) 104 "take_paper" ["self", "deep"] (spPaper K 20) := IP
  have DW := d_whole (k := 102) T IC M_i0 (IA.mono (by decide)) (IS.mono (by decide)) IP F_take_whole
  have RO := ok_read T OB (k := 102) DW F_read_paper
  have DR := d_read T OB (k := 102) DW F_read_paper
  have TO := ok_text (base := base) T OP F_is_integer F_is_name F_parts_count F_has_text F_words_of F_paper_text
  have DT := d_text (base := base) T OP F_is_integer F_is_name F_parts_count F_has_text F_words_of F_paper_text
  have BB : Bools PR w K mg base := ⟨d_b0 M_pb, d_b1 M_db⟩
  have LK := d_like T BB F_is_like M_pe 20
  have EQ := d_eq T BB M_pe (by decide) LK
  have bE : Binds K m_pe ["self", "other"] [] := M_pe.bindsN fun _ _ _ _ _ _ us hl => match us, hl with | [_, _], _ => rfl
  have k0 := He.mkr_ok (c.t.d.facts (fa_k (x := "Paper") (by decide +kernel)))
  have k1 := He.mkr_ok (c.t.d.facts (fa_k (x := "Denial") (by decide +kernel)))
  exact ⟨T, hT, hP, by decide, (d_pen T F__law_pen).mono (by decide), (d_draw T F__law_draw).mono (by decide), (d_pick T F__law_draw F__law_pick).mono (by decide), (d_counts T F__law_counts).mono (by decide),
    (d_val T F__law_draw F__law_pick F__law_counts F__law_value 4).mono (by decide), d_bent T hT hP TT (kr := 104) DR F__law_draw F__law_pick F__law_at_heard F__law_bent_right (hB _ F__law_bent_right), DR, DT.mono (by decide),
    ⟨_, RO, kb_read F_read_paper, F_read_paper.kp, T.g "read_paper" (by decide +kernel)⟩, ⟨_, fnOk_mono TO (by decide), kb_text F_paper_text, F_paper_text.kp, T.g "paper_text" (by decide +kernel)⟩,
    ⟨fun i hi => (pcF_of (p i hi)).ne⟩, ⟨m_pe, fnOk_mono EQ (by decide), bE⟩, BB, mkOk_mono K_20 (by decide), mkOk_mono K_11 (by decide), FP.mono (by decide), k0, ⟨GB.m1, GB.i1, k0.fn, k1.kp⟩, GB.kL, ⟨_, F__law_at_heard⟩⟩
end
end K6
end
section -- KHe
set_option maxHeartbeats 2000000
/-! The end. -/
namespace K6
open PySem PySem.Spec PyProof.Rows L2 LamX
section
variable {w : World} {h : Heap} {K : PySem.W.Frag} {mg : Str → Option Value}
theorem code_of {x : Str} {i : Nat} {fd : FuncData} (F : FnT K x i fd) : fd.code = .ref (He.codeOf K (x, none)) := by
  obtain ⟨oc, od, dV, kV, doc, pm, an, cdv, ct, osl, rfl, lk, hcd, _, _⟩ := F.ex
  obtain ⟨c, rfl⟩ := He.codeIn_ref hcd
  rw [He.codeOf_eq (p := (x, none)) lk rfl]
theorem law_at {fa : Addr} (X : K.In h) (G : h.Ns mainGlobals mg) (c : Says w h K) (hfa : mg ("law" : Str) = some (.ref fa)) : LawAtS PySem.Challenge.rw_anytower_k76_texts_of_papers w K CX0 110 63 "script" mg fa h := by
  have T := txt_of X G c
  obtain ⟨g, _⟩ := ex_parts c
  have GB := glb_of g
  obtain ⟨fd, F⟩ := def_at c 23 (x := "law") (j := 94) rfl
  have e := hfa.symm.trans (T.g "law" (by decide +kernel))
  cases e
  have b := FunD.bindsA (ps := ["script"]) F fun _ _ _ _ _ _ us hl => match us, hl with | [_], _ => rfl
  refine ⟨fd, tfH.map (He.cT K), spLaw K (He.cT K ("_law_bent_right", none)).2 (He.cT K ("law", none)).2, fun p hp => ?_, fun p hp => ?_, fun p hp => ?_, fun s u => b s [u] rfl, fun H a ns _ _ hH hS => ⟨a, ns, rfl, hS, fun p hp => ?_, fun _ => rfl⟩, fun base KX Gb TB => ?_⟩
  · obtain ⟨q, hq, rfl⟩ := List.mem_map.mp hp
    exact c.empty q hq
  · obtain ⟨q, hq, rfl⟩ := List.mem_map.mp hp
    exact c.out q hq
  · obtain ⟨q, hq, rfl⟩ := List.mem_map.mp hp
    exact PySem.W.codeHd_of_K X (c.hd q hq)
  · rcases List.mem_cons.mp hp with z | z
    · rw [z]
      exact TabS.nil (hH (He.cT K ("_law_bent_right", none)) List.mem_cons_self)
    · rw [List.mem_singleton.mp z]
      exact TabS.nil (hH (He.cT K ("law", none)) (List.mem_cons_of_mem _ List.mem_cons_self))
  · have TT : TwoT base mg (He.cT K ("_law_bent_right", none)).1 (He.cT K ("_law_bent_right", none)).2 (He.cT K ("law", none)).1 (He.cT K ("law", none)).2 := ⟨TB _ List.mem_cons_self, TB _ (List.mem_cons_of_mem _ List.mem_cons_self), GB.tt⟩
    exact ok_law (law_bag T c TT fun fd F => code_of F) TT F (code_of F)
end
end K6
open PySem PySem.W PySem.Calls PyProof.Rows
theorem PySem.Challenge.cw_anytower_k76_texts_of_papers_holds : PySem.Challenge.rw_anytower_k76_texts_of_papers.Holds := by
  w_on; o_law
  refine HandSHeadRun.head_any (r := OpenLaw.row PySem.Challenge.rw_anytower_k76_texts_of_papers) (q := view (OpenLaw.row PySem.Challenge.rw_anytower_k76_texts_of_papers).prog [94]) (H := K6.hk) (ob := K6.ob) (M := 40000) (loose := K6.loose) (d := HandSHeadRun.topDef (OpenLaw.row PySem.Challenge.rw_anytower_k76_texts_of_papers).prog 94) (kwd := []) K6.ob_eq
    (by kernel_rfl) (fun s => by kernel_rfl) K6.run (by kernel_rfl) (by kernel_rfl) (by kernel_rfl) (by rfl) (by first | assumption | decide +kernel) (by decide +kernel) ⟨rfl, rfl, rfl, rfl, rfl, by decide +kernel⟩ ?hw ?hc
  case hw => w_witness2
  case hc =>
    refine LamX.walk_ofTsE (l := PySem.Challenge.rw_anytower_k76_texts_of_papers) (n := 63) (k := 110) (x := "script") (CX := fun _ => L2.CX0) rfl (by decide) (by kernel_rfl) ⟨rfl, by decide, by decide⟩ ?F (fun _ _ _ _ _ z => z)
    intro w mg fa h Y G hmg0
    obtain ⟨K, KX, c⟩ := Y
    have hmg : mg ("law" : PySem.Str) = some (.ref fa) := by
      have e : (HandSHeadRun.topDef (OpenLaw.row PySem.Challenge.rw_anytower_k76_texts_of_papers).prog 94).name = ("law" : PySem.Str) := by kernel_rfl
      rw [← e]
      exact hmg0
    exact ⟨K, KX, K6.law_at KX G c hmg⟩
end
