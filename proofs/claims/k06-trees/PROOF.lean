import PyProof.Rows.All
import HandS.ForMost
import HandS.AnyAll
import HandS.Walk
import HandS.Wide
import HandS.TupAny
import HandS.Style
import HandS.Deep
import HandS.Steps
import HandS.HeadWalk
import HandS.HeadHook4
import HandS.CallSlots
import HandS.WordsExc
import HandS.IsInst
import HandS.More
import HandS.NestedK
import PySem.Challenge.RW_foundry_k06_trees_of_lines
set_option Elab.async false
set_option linter.all false
set_option maxRecDepth 100000
/-! all, any of a generator expression over the signs of a text, whose element may read names of the module -/
namespace Gx
open PySem PySem.Spec PyProof.Rows L2 GxR
/-- the element tests the sign; it may read what stands in the base heap -/
def SignT (X : Cx) (sc : Scope) (x : Str) (e : Expr) (pb : Nat → Bool) : Prop :=
  ∀ (ce : Env) (B : Around) (E' : Value → Shared → Prop) (c : Nat) (t : Tok) (s2 : Shared) (m2 : Str → Option Value),
    ce.scope = sc → ce.globals = mainGlobals → (∀ b o, X.base.get? b = some o → s2.heap.get? b = some o) → s2.heap.Ns ce.locals m2 →
    m2 x = some (.str ⟨#[c]⟩ t) → wpAny (model X.prog X.w) B (eval e ce) (fun y s3 => y = .bool (pb c) ∧ Keeps s2 s3) E' s2
/-- x in NAME, NAME a text of the module -/
theorem signT_in {X : Cx} {sc : Scope} {x g : Str} {z : Str} {p1 p2 p3 : Pos} (hm : ∃ t, X.mg g = some (.str z t)) (hb : X.base.Ns mainGlobals X.mg)
    (hk : sc.kind = .function) (hl : sc.names.lookup x = some .local) (hg : sc.names.lookup g = some .globalImplicit)
    (d1 : (x == ("__debug__" : Str)) = false := by decide) (d2 : (g == ("__debug__" : Str)) = false := by decide) :
    SignT X sc x (.Compare (.Name x p1) [.In] [.Name g p2] p3) (fun c => decide (c ∈ z.cps.toList)) := by
  intro ce B E' c t s2 m2 hs hgl hbk hn hx
  obtain ⟨tz, ez⟩ := hm
  refine wpAny_Compare1 ?_
  refine wpAny_Name (wpAny_loadName_local (by rw [hs]; exact hk) (by show ce.scope.names.lookup x = some .local; rw [hs]; exact hl) hn hx ?_) d1
  refine Calls.Name_function_global (by rw [hs]; exact hk) (by show ce.scope.names.lookup g = _; rw [hs]; exact hg) (Calls.loadGlobal_global (by rw [hgl]; exact hb.keeps hbk) ez ?_) d2
  refine PyProof.Rows.in_str ?_
  exact ⟨by rw [PySem.StrLaws.found_one z c], keeps_refl _⟩
section
variable {X : Cx} {pins : List (Addr × Obj)} {σ : L2.St} {H : Hp} {s : Shared}
theorem gen_signs {c P : Addr} {e it : Expr} {x : Str} {px gpos : Pos} {sc : Scope} {pb : Nat → Bool} {te : TE} {k : Nat} {Q' : Value → Shared → Prop} {R : Str → Hp → Prop}
    (hr : Room k X.A) (TB : TabB X.base X.mg c P) (hcode : X.env.code = .ref c) (S : GenS X.env sc x) (hi : PE X it te) (hel : SignT X sc x e pb)
    (hs : ∀ v, genFold it X.env v = pure v) (I : Inv X pins σ H s) (h : te σ H fun v H1 => ∃ a : Str, v = .str a ∧ TabG H1 P ∧ R a H1)
    (hQ : ∀ a H1 g s5, R a H1 → Ready X pins σ H1 P a pb g s5 → Q' (.ref g) s5) :
    wpAny (model X.prog X.w) X.A (eval (.GeneratorExp e [⟨.Name x px, it, [], 0⟩] sc gpos) X.env) Q' X.xe s := by
  have hdep := hr.dp
  refine wpAny_GeneratorExp_walksQ hr.hd S.co (closure_ok S.free) S.cell S.dot S.loc S.kind (by omega) ?_ hs
  refine thn (hi.run pins s σ H _ I h) fun xv s1 hx1 => ?_
  obtain ⟨v, H1, I1, r1, a, rfl, ⟨ps, hP, ht⟩, hR⟩ := hx1
  obtain ⟨t, rfl⟩ := _root_.id r1
  refine wpAny_pyIter_str fun o St W hst => ?_
  have hPs : s1.heap.get? P = some { cls := .none, data := .fields ps } := I1.hok P _ hP
  have hPlt := Heap.lt_size hPs
  have up : ∀ b u, s1.heap.get? b = some u → (s1.heap.push o).get? b = some u := fun b u q => Heap.get?_push_of_some _ q
  have cd : PySem.W.CodeHd (s1.heap.push o) c P := TB.code.keeps fun b u q => up b u (I1.bk b u q)
  have lim2 : (s1.heap.push o).NoLimit := I1.nolimit.push o
  have sz2 : (s1.heap.push o).objs.size = s1.heap.objs.size + 1 := Heap.size_push ..
  refine ⟨lim2, ?_⟩
  -- from the code object on, however it was found
  have go : ∀ (code : Value) (h3 : Heap) (tk : Nat) (more : Array Value), Heap.ExtBut P (s1.heap.push o) h3 → (s1.heap.push o).objs.size ≤ h3.objs.size →
      h3.get? P = some { cls := .none, data := .fields (ps ++ more) } → TriplesOk (ps ++ more).toList →
      wpAny (model X.prog X.w) X.A (builtinsFor X.env.globals X.env.builtins) (fun bi s₄ =>
        ∃ Ia fp wr n₀ Pf St₀ pz F, Value.ref s1.heap.objs.size = .ref Ia ∧ (∀ A' : Around, A'.handled = none → Walks X.prog X.w A' Ia fp wr n₀ Pf St₀) ∧ St₀ 0 s₄.heap ∧ (∀ b ∈ fp, b < s₄.heap.objs.size) ∧ s₄.heap.NoLimit ∧ cStatics ∉ wr ∧
          (∀ href : Heap, (∀ b o, s₄.heap.get? b = some o → href.get? b = some o) →
            QuietGen X.prog X.w (genEnv sc (cloFrom X.env.cells sc.names []) s₄.heap.objs.size code bi X.env) x [] e (List.range s₄.heap.objs.size) wr Pf pz F href) ∧
          (∀ a h₅ tk gs, gs.bare = true → s₄.heap.objs.size < a → h₅.objs.size = a + 1 → (∀ b o, s₄.heap.get? b = some o → h₅.get? b = some o) →
            WalksS X.prog X.w X.A.in4 a (a :: s₄.heap.objs.size :: List.range s₄.heap.objs.size) (s₄.heap.objs.size :: wr) (GenOnlyQ s₄.gens.size) (passing pz n₀ 0).length
              (fun j y => ∃ i, (passing pz n₀ 0)[j]? = some i ∧ F i y) (GenAt X.prog X.w X.A.in4 a s₄.gens.size s₄.heap.objs.size (List.range s₄.heap.objs.size) wr pz n₀ F) →
            GenAt X.prog X.w X.A.in4 a s₄.gens.size s₄.heap.objs.size (List.range s₄.heap.objs.size) wr pz n₀ F 0 { s₄ with gens := s₄.gens.push gs, toks := tk, heap := h₅ } →
            Q' (.ref a) { s₄ with gens := s₄.gens.push gs, toks := tk, heap := h₅ })) X.xe { s1 with heap := h3, toks := tk } := by
    intro code h3 tk more hx3 hsz hP3 ht3
    have kp3 : ∀ b u, b ≠ P → s1.heap.get? b = some u → h3.get? b = some u := fun b u nb q => hx3 b u nb (up b u q)
    have bse : ∀ b u, X.base.get? b = some u → b ≠ P ∧ s1.heap.get? b = some u := fun b u q => by
      obtain ⟨g1, g2⟩ := I1.bs b u q
      exact ⟨fun z => (by rw [z, hP] at g2; cases g2), g1⟩
    obtain ⟨bm, ob, b1, b2, b3, b4, b5, b6, b7, b8⟩ := TB.bm
    have lim3 : h3.NoLimit := lim2.extBut hx3 fun z => by
      obtain ⟨_, ⟨o', es, ep, ho, hd, _⟩, _⟩ := I1.nolimit
      rw [z, hPs] at ho
      cases ho
      cases hd
    have hcl : cStatics < s1.heap.objs.size := let ⟨_, hns, _⟩ := I1.nolimit; hns.lt
    refine wpAny_builtinsFor (m := X.mg) (by rw [I1.ok.glob]; exact I1.mod.glob.keeps fun b u q => kp3 b u (bse b u q).1 (bse b u q).2) b1 b2 (kp3 _ _ b4 (I1.bk _ _ b5)) b6 b7 b8 ?_
    refine ⟨_, [s1.heap.objs.size], [s1.heap.objs.size], a.cps.size, SignAt a, St, fun _ => true, fun i y => ∃ cc, a.cps[i]? = some cc ∧ y = .bool (pb cc), rfl, W, ?_, ?_, lim3, ?_, ?_, ?_⟩
    · refine (W X.A hr.hd).frame _ _ _ hst fun b hb u q => hx3 b u ?_ q
      have eb : b = s1.heap.objs.size := by simpa using hb
      rw [eb]
      exact fun z => Nat.lt_irrefl _ (by rw [z] at hPlt; exact hPlt)
    · intro b hb
      have eb : b = s1.heap.objs.size := by simpa using hb
      rw [eb]
      exact Nat.lt_of_lt_of_le (by rw [sz2]; exact Nat.lt_succ_self _) hsz
    · intro z
      have ez : cStatics = s1.heap.objs.size := by simpa using z
      rw [ez] at hcl
      exact Nat.lt_irrefl _ hcl
    · intro href hhref
      have kb : ∀ (s₂ : Shared), (∀ b ∈ List.range h3.objs.size, b ∉ [s1.heap.objs.size] → ∀ u, href.get? b = some u → s₂.heap.get? b = some u) → ∀ b u, X.base.get? b = some u → s₂.heap.get? b = some u := fun s₂ hk b u q => by
        obtain ⟨g1, g2⟩ := bse b u q
        have l1 := Heap.lt_size g2
        have l3 := Heap.lt_size (kp3 b u g1 g2)
        exact hk b (List.mem_range.mpr l3) (fun z => Nat.ne_of_lt l1 (by simpa using z)) u (hhref b u (kp3 b u g1 g2))
      constructor
      · intro A' E' i v s₂ m₂ hA hPv hn hm hk
        rw [List.forIn_nil]
        exact wpAny_pure ⟨rfl, keeps_refl _⟩
      · intro A' E' i v s₂ m₂ hA hPv hp hn hm hk
        obtain ⟨cc, u, hcc, rfl⟩ := hPv
        exact wpAny_mono (hel _ A' E' cc u s₂ m₂ rfl I1.ok.glob (kb s₂ hk) hn hm) (fun y s3 r => ⟨⟨cc, hcc, r.1⟩, r.2⟩) fun _ _ q => q
    · intro g h5 tk5 gs hgb hag hsz5 hk5 W5 hat
      simp only [GxR.passing_true, List.length_range] at W5
      refine hQ a H1 g _ hR ⟨_, _, _, _, _, W5.in4_1, hat, ?_, fun s' hm => ?_⟩
      · intro j y sj Qj Ej hy hQj
        obtain ⟨i, hij, cc, hcc, rfl⟩ := hy
        have ej : i = j := by
          obtain ⟨hj, ej⟩ := List.getElem?_eq_some_iff.mp hij
          rw [List.getElem_range] at ej
          exact ej.symm
        subst ej
        refine wpAny_truthy_bool ?_
        have e9 : a.cps.toList[i]? = some cc := by rw [Array.getElem?_toList]; exact hcc
        have e8 : trF pb a.cps.toList i = pb cc := trF_some e9
        rw [← e8]
        exact hQj
      · have nwr : ∀ b u, s1.heap.get? b = some u → b ∉ h3.objs.size :: [s1.heap.objs.size] := fun b u q hb => by
          have hl := Heap.lt_size q
          have hb2 : b = h3.objs.size ∨ b = s1.heap.objs.size := by simpa using hb
          have h9 : (s1.heap.push o).objs.size ≤ h3.objs.size := hsz
          rcases hb2 with z | z
          · rw [z] at hl
            exact Nat.lt_irrefl _ (Nat.lt_of_lt_of_le (Nat.lt_of_lt_of_le (by rw [sz2]; exact Nat.lt_succ_of_lt hl) hsz) (Nat.le_refl _))
          · rw [z] at hl
            exact Nat.lt_irrefl _ hl
        have J := inv_tab (more := more) (h' := s'.heap) (g' := s'.gens) (d' := s'.drawn) (t' := s'.toks) I1 hP (fun b u hb q => hm.heap b u (nwr b u q) (hk5 b u (kp3 b u hb q)))
          (hm.heap P _ (nwr P _ hPs) (hk5 P _ hP3)) (AllBare.movedS (I1.bare.push hgb) hm)
        rw [sh_eta s1 s' hm.os] at J
        exact ⟨upd H1 P (.tbl (ps ++ more)), ⟨⟨ps ++ more, upd_same, ht3⟩, fun b hb => upd_ne hb⟩, J⟩
  have hP2 : (s1.heap.push o).get? P = some { cls := .none, data := .fields ps } := up P _ hPs
  cases hf : codeAmong gpos ps.toList with
  | some cv =>
    refine wpAny_genexprCode_hit hcode (cd.code hP2 ht) hf ?_
    exact go cv (s1.heap.push o) s1.toks #[] (Heap.ExtBut.refl _ _) (Nat.le_refl _) (by simpa using hP2) (by simpa using ht)
  | none =>
    refine wpAny_genexprCodeX hcode (cd.code hP2 ht) (cd.tab hP2) hf fun c' h' tk hx hge hlt hco' _ htab' _ => ?_
    obtain ⟨o1, vs, f1, tf, fl, tg, inF, tx, tt, op, _, _, _, _, _, _, _, _, _, htr, _⟩ := hco'
    exact go _ h' tk _ hx (Nat.le_trans hge (Nat.le_of_lt hlt)) htab'.2 htr
theorem pe_allT {c P : Addr} {e it : Expr} {x : Str} {px p pos gpos : Pos} {sc : Scope} {pb : Nat → Bool} {te : TE} {k : Nat}
    (hr : Room k X.A) (hg : Gl X "all") (hm : X.mg "all" = none) (TB : TabB X.base X.mg c P) (hcode : X.env.code = .ref c) (S : GenS X.env sc x) (hi : PE X it te) (hel : SignT X sc x e pb)
    (hs : ∀ v, genFold it X.env v = pure v)
    (he : starEach [.GeneratorExp e [⟨.Name x px, it, [], 0⟩] sc gpos] X.env = (false, eval (.GeneratorExp e [⟨.Name x px, it, [], 0⟩] sc gpos) X.env) :: starEach [] X.env := by rfl) :
    PE X (.Call (.Name "all" p) [.GeneratorExp e [⟨.Name x px, it, [], 0⟩] sc gpos] [] pos) (tAllS P pb te) := by
  refine ⟨fun pins s σ H Q I h => ?_⟩
  refine wpAny_Call_Name_kw (ld_blt I hg hm boot_all ?_)
  refine PyProof.Rows.callWith_builtin1 ?_ he (by rfl)
  rw [he]
  show wpAny _ _ (spliced ((false, eval (.GeneratorExp e [⟨.Name x px, it, [], 0⟩] sc gpos) X.env) :: backTo pos (starEach [] X.env))) _ _ s
  refine Calls.spliced_cons (gen_signs (R := fun a H1 => ∀ H2, Tabbed P H1 H2 → Q (.bl (a.cps.toList.all pb)) H2) hr TB hcode S hi hel hs I h fun a H1 g s5 hR hG => ?_)
  obtain ⟨fp, wr, G, F, St, W, hst, htr, hI⟩ := hG
  refine Calls.spliced_nil (call_all_walkS (W.self 0 _ _ _ hst ⟨g, fp, wr, G, _, F, St, _, rfl, W, hst, htr, fun s' hmv => ?_⟩))
  obtain ⟨H2, hT, J⟩ := hI s' hmv
  exact ⟨.bl _, H2, J, rfl, by rw [all_signs a pb]; exact hR H2 hT⟩
end
end Gx
set_option Elab.async false
set_option linter.all false
set_option maxRecDepth 100000
/-! DL1: data without addresses, the slots as data, what a reading of the hand layer does to them -/
namespace DL
open PySem PySem.Spec PyProof.Rows L2
/-! ### data -/
inductive Dt where
  | non | bl (b : Bool) | int (i : Int) | str (s : List Nat) | lst (xs : List Dt) | tup (xs : List Dt)
  deriving Inhabited
mutual
def Dt.py : Dt → PyData
  | .non => .none
  | .bl b => .bool b
  | .int i => .int i
  | .str s => .str ⟨s.toArray⟩
  | .lst xs => .list (pys xs)
  | .tup xs => .tuple (pys xs)
def pys : List Dt → List PyData
  | [] => []
  | d :: ds => d.py :: pys ds
end
mutual
/-- == of data -/
def eqD : Dt → Dt → Bool
  | .non, .non => true
  | .bl a, .bl b => a == b
  | .bl a, .int j => (if a then 1 else 0) == j
  | .int i, .bl b => i == (if b then 1 else 0)
  | .int i, .int j => i == j
  | .str s, .str t => s == t
  | .lst xs, .lst ys => eqDs xs ys
  | .tup xs, .tup ys => eqDs xs ys
  | _, _ => false
def eqDs : List Dt → List Dt → Bool
  | [], [] => true
  | x :: xs, y :: ys => eqD x y && eqDs xs ys
  | _, _ => false
end
mutual
theorem eqD_py : ∀ a b : Dt, PyData.eqv a.py b.py = eqD a b
  | .non, b => by cases b <;> simp [Dt.py, PyData.eqv, eqD]
  | .bl x, b => by cases b <;> simp [Dt.py, PyData.eqv, eqD]
  | .int x, b => by cases b <;> simp [Dt.py, PyData.eqv, eqD]
  | .str x, b => by
    cases b <;> simp [Dt.py, PyData.eqv, eqD]
    rename_i y
    rw [Bool.eq_iff_iff, beq_iff_eq, beq_iff_eq]
    constructor
    · intro h
      have := congrArg (fun z : Str => z.cps.toList) h
      simpa using this
    · intro h; rw [h]
  | .lst x, b => by
    cases b <;> simp [Dt.py, PyData.eqv, eqD]
    exact eqDs_py x _
  | .tup x, b => by
    cases b <;> simp [Dt.py, PyData.eqv, eqD]
    exact eqDs_py x _
theorem eqDs_py : ∀ a b : List Dt, PyData.eqvAll (pys a) (pys b) = eqDs a b
  | [], [] => by simp [pys, PyData.eqvAll, eqDs]
  | [], _ :: _ => by simp [pys, PyData.eqvAll, eqDs]
  | _ :: _, [] => by simp [pys, PyData.eqvAll, eqDs]
  | x :: xs, y :: ys => by simp [pys, PyData.eqvAll, eqDs, eqD_py x y, eqDs_py xs ys]
end
mutual
/-- how deep; signs within what signs are -/
def Dt.dep : Dt → Nat
  | .lst xs | .tup xs => deps xs + 1
  | _ => 0
def deps : List Dt → Nat
  | [] => 0
  | x :: xs => max x.dep (deps xs)
end
mutual
def Dt.sgn : Dt → Bool
  | .str s => s.all (· < 0x110000)
  | .lst xs | .tup xs => sgns xs
  | _ => true
def sgns : List Dt → Bool
  | [] => true
  | x :: xs => x.sgn && sgns xs
end
def Dt.shp (d : Dt) : Bool := d.sgn && Nat.ble d.dep 60
mutual
theorem sgn_py : ∀ d : Dt, d.py.canLay0 = d.sgn
  | .non => by simp [Dt.py, PyData.canLay0, Dt.sgn]
  | .bl _ => by simp [Dt.py, PyData.canLay0, Dt.sgn]
  | .int _ => by simp [Dt.py, PyData.canLay0, Dt.sgn]
  | .str s => by simp [Dt.py, PyData.canLay0, Dt.sgn, PyData.strOk]
  | .lst xs => by simp [Dt.py, PyData.canLay0, Dt.sgn, sgns_py xs]
  | .tup xs => by simp [Dt.py, PyData.canLay0, Dt.sgn, sgns_py xs]
theorem sgns_py : ∀ ds : List Dt, PyData.canLayAll0 (pys ds) = sgns ds
  | [] => by simp [pys, PyData.canLayAll0, sgns]
  | d :: ds => by simp [pys, PyData.canLayAll0, sgns, sgn_py d, sgns_py ds]
end
mutual
theorem dep_py : ∀ d : Dt, d.py.depth = d.dep
  | .non => by simp [Dt.py, PyData.depth, Dt.dep]
  | .bl _ => by simp [Dt.py, PyData.depth, Dt.dep]
  | .int _ => by simp [Dt.py, PyData.depth, Dt.dep]
  | .str s => by simp [Dt.py, PyData.depth, Dt.dep]
  | .lst xs => by simp [Dt.py, PyData.depth, Dt.dep, deps_py xs]
  | .tup xs => by simp [Dt.py, PyData.depth, Dt.dep, deps_py xs]
theorem deps_py : ∀ ds : List Dt, PyData.depthAll (pys ds) = deps ds
  | [] => by simp [pys, PyData.depthAll, deps]
  | d :: ds => by simp [pys, PyData.depthAll, deps, dep_py d, deps_py ds]
end
theorem shp_ok {d : Dt} (h : d.shp = true) : SeqAt.shaped d.py = true := by
  unfold Dt.shp at h
  rw [Bool.and_eq_true] at h
  show (d.py.canLay0 && decide (d.py.depth ≤ 64)) = true
  rw [sgn_py, dep_py, h.1, Bool.true_and]
  have := Nat.le_of_ble_eq_true h.2
  exact decide_eq_true (by omega)
theorem shpL_ok {ds : List Dt} (h : (Dt.lst ds).shp = true) : SeqAt.shaped (.list (pys ds)) = true := shp_ok (d := .lst ds) h
theorem any_py (d : Dt) : ∀ ds : List Dt, ((pys ds).any fun z => PyData.eqv z d.py) = ds.any fun z => eqD z d
  | [] => rfl
  | x :: xs => by simp [pys, eqD_py, any_py d xs]
theorem pys_length : ∀ ds : List Dt, (pys ds).length = ds.length
  | [] => rfl
  | _ :: ds => by simp [pys, pys_length ds]
/-! ### values that bear data -/
mutual
inductive Rp (K : PySem.W.Frag) (H : Hp) : V → Dt → Prop
  | non : Rp K H .non .non
  | bl (b : Bool) : Rp K H (.bl b) (.bl b)
  | int (i : Int) : Rp K H (.int i) (.int i)
  | str (s : List Nat) : Rp K H (.str ⟨s.toArray⟩) (.str s)
  | lst {a : Addr} {xs : List V} {ds : List Dt} : SqL K H a xs → Rps K H xs ds → Rp K H (.ref a) (.lst ds)
  | tup {a : Addr} {xs : List V} {ds : List Dt} : SqT K H a xs → Rps K H xs ds → Rp K H (.ref a) (.tup ds)
inductive Rps (K : PySem.W.Frag) (H : Hp) : List V → List Dt → Prop
  | nil : Rps K H [] []
  | cons {v : V} {vs : List V} {d : Dt} {ds : List Dt} : Rp K H v d → Rps K H vs ds → Rps K H (v :: vs) (d :: ds)
end
section
variable {K : PySem.W.Frag} {H B : Hp}
mutual
theorem Rp.dp : ∀ {d : Dt} {v : V}, Rp K H v d → Dp K H v d.py
  | .non, _, h => by cases h; exact .non
  | .bl _, _, h => by cases h; exact .bl _
  | .int _, _, h => by cases h; exact .int _
  | .str _, _, h => by cases h; exact .str _
  | .lst ds, _, h => by
    cases h with
    | lst h1 h2 => exact .lst h1 (Rps.dp h2)
  | .tup ds, _, h => by
    cases h with
    | tup h1 h2 => exact .tup h1 (Rps.dp h2)
theorem Rps.dp : ∀ {ds : List Dt} {vs : List V}, Rps K H vs ds → DpAll K H vs (pys ds)
  | [], _, h => by cases h; exact .nil
  | d :: ds, _, h => by
    cases h with
    | cons h1 h2 => exact .cons (Rp.dp h1) (Rps.dp h2)
end
/-- all that stands in the one stands in the other -/
def Gr (B H : Hp) : Prop := ∀ a o, B a = some o → H a = some o
theorem Gr.refl : Gr H H := fun _ _ e => e
theorem Gr.trans {A B C : Hp} (h : Gr A B) (g : Gr B C) : Gr A C := fun a o e => g a o (h a o e)
theorem Gr.rd {a : Addr} {u : HO} (g : Gr B H) (h : Rd B a u) : Rd H a u := by
  rcases h with h | ⟨o, h⟩
  · exact .inl (g _ _ h)
  · exact .inr ⟨o, g _ _ h⟩
theorem Gr.sqL {a : Addr} {xs : List V} (g : Gr B H) (h : SqL K B a xs) : SqL K H a xs := by
  rcases h with h | h
  · exact .inl (g.rd h)
  · exact .inr h
theorem Gr.sqT {a : Addr} {xs : List V} (g : Gr B H) (h : SqT K B a xs) : SqT K H a xs := by
  rcases h with h | h
  · exact .inl (g.rd h)
  · exact .inr h
mutual
theorem Rp.up (g : Gr B H) : ∀ {d : Dt} {v : V}, Rp K B v d → Rp K H v d
  | .non, _, h => by cases h; exact .non
  | .bl _, _, h => by cases h; exact .bl _
  | .int _, _, h => by cases h; exact .int _
  | .str _, _, h => by cases h; exact .str _
  | .lst ds, _, h => by
    cases h with
    | lst h1 h2 => exact .lst (g.sqL h1) (Rps.up g h2)
  | .tup ds, _, h => by
    cases h with
    | tup h1 h2 => exact .tup (g.sqT h1) (Rps.up g h2)
theorem Rps.up (g : Gr B H) : ∀ {ds : List Dt} {vs : List V}, Rps K B vs ds → Rps K H vs ds
  | [], _, h => by cases h; exact .nil
  | d :: ds, _, h => by
    cases h with
    | cons h1 h2 => exact .cons (Rp.up g h1) (Rps.up g h2)
end
theorem Rps.length : ∀ {vs : List V} {ds : List Dt}, Rps K H vs ds → vs.length = ds.length
  | _, [], h => by cases h; rfl
  | _, _ :: ds, h => by
    cases h with
    | cons _ h2 => simp [Rps.length h2]
theorem Rps.get : ∀ {vs : List V} {ds : List Dt} {i : Nat} {d : Dt}, Rps K H vs ds → ds[i]? = some d → ∃ v, vs[i]? = some v ∧ Rp K H v d
  | _, [], _, _, _, e => by simp at e
  | _, _ :: _, 0, _, h, e => by
    cases h with
    | cons h1 _ => exact ⟨_, rfl, by simp at e; rw [← e]; exact h1⟩
  | _, _ :: _, i + 1, _, h, e => by
    cases h with
    | cons _ h2 => exact Rps.get (i := i) h2 (by simpa using e)
theorem Rps.app : ∀ {vs ws : List V} {ds es : List Dt}, Rps K H vs ds → Rps K H ws es → Rps K H (vs ++ ws) (ds ++ es)
  | _, _, [], _, h, g => by cases h; exact g
  | _, _, _ :: _, _, h, g => by
    cases h with
    | cons h1 h2 => exact .cons h1 (Rps.app h2 g)
theorem Rps.take : ∀ {vs : List V} {ds : List Dt} (n : Nat), Rps K H vs ds → Rps K H (vs.take n) (ds.take n)
  | _, _, 0, _ => .nil
  | _, [], _ + 1, h => by cases h; exact .nil
  | _, _ :: _, n + 1, h => by
    cases h with
    | cons h1 h2 => exact .cons h1 (Rps.take n h2)
theorem Rps.drop : ∀ {vs : List V} {ds : List Dt} (n : Nat), Rps K H vs ds → Rps K H (vs.drop n) (ds.drop n)
  | _, _, 0, h => h
  | _, [], _ + 1, h => by cases h; exact .nil
  | _, _ :: _, n + 1, h => by
    cases h with
    | cons h1 h2 => exact Rps.drop n h2
theorem Rps.set {v : V} {d : Dt} (r : Rp K H v d) : ∀ {vs : List V} {ds : List Dt} (n : Nat), Rps K H vs ds → Rps K H (vs.set n v) (ds.set n d)
  | _, [], _, h => by cases h; exact .nil
  | _, _ :: _, 0, h => by
    cases h with
    | cons _ h2 => exact .cons r h2
  | _, _ :: _, n + 1, h => by
    cases h with
    | cons h1 h2 => exact .cons h1 (Rps.set r n h2)
theorem Rps.rep {vs : List V} {ds : List Dt} (h : Rps K H vs ds) : ∀ n : Nat, Rps K H (List.replicate n vs).flatten (List.replicate n ds).flatten
  | 0 => .nil
  | n + 1 => by
    rw [List.replicate_succ, List.replicate_succ, List.flatten_cons, List.flatten_cons]
    exact h.app (Rps.rep h n)
theorem Rps.rev : ∀ {vs : List V} {ds : List Dt}, Rps K H vs ds → Rps K H vs.reverse ds.reverse
  | _, [], h => by cases h; exact .nil
  | _, _ :: _, h => by
    cases h with
    | cons h1 h2 =>
      rw [List.reverse_cons, List.reverse_cons]
      exact (Rps.rev h2).app (.cons h1 .nil)
theorem rps_ints : ∀ (ns : List Int), Rps K H (ns.map V.int) (ns.map Dt.int)
  | [] => .nil
  | n :: ns => .cons (.int n) (rps_ints ns)
end
/-! ### steps of the heap: B is what never changes any more, O are cells that may -/
structure Stp (O : Addr → Prop) (B H B' H' : Hp) : Prop where
  bb : Gr B B'
  nw : ∀ a, B a = none → H a ≠ none → ¬ O a → B' a = none
  hh : ∀ a o, H a = some o → (∀ ps, o ≠ .tbl ps) → ¬ O a → H' a = some o
  th : ∀ a, H a ≠ none → H' a ≠ none
  tb : ∀ p, GxR.TabG H p → GxR.TabG H' p
  bt : ∀ a ps, B' a = some (.tbl ps) → B a = some (.tbl ps)
theorem Stp.refl {O : Addr → Prop} {B H : Hp} : Stp O B H B H := ⟨Gr.refl, fun _ e _ _ => e, fun _ _ e _ _ => e, fun _ e => e, fun _ e => e, fun _ _ e => e⟩
theorem Stp.mono {O O' : Addr → Prop} {B H B' H' : Hp} (s : Stp O B H B' H') (h : ∀ a, O a → O' a) : Stp O' B H B' H' :=
  ⟨s.bb, fun a e n o => s.nw a e n fun z => o (h a z), fun a u e n o => s.hh a u e n fun z => o (h a z), s.th, s.tb, s.bt⟩
theorem Stp.trans {O O' : Addr → Prop} {B H B1 H1 B2 H2 : Hp} (s : Stp O B H B1 H1) (t : Stp O' B1 H1 B2 H2) (h : ∀ a, O' a → O a ∨ H a = none) : Stp O B H B2 H2 where
  bb := s.bb.trans t.bb
  nw := fun a e n o => t.nw a (s.nw a e n o) (s.th a n) fun z => (h a z).elim o n
  hh := fun a u e n o => t.hh a u (s.hh a u e n o) n fun z => (h a z).elim o (by rw [e]; exact fun q => by cases q)
  th := fun a e => t.th a (s.th a e)
  tb := fun p e => t.tb p (s.tb p e)
  bt := fun a ps e => s.bt a ps (t.bt a ps e)
/-! ### slots as data -/
inductive Ow where
  | sh (d : Dt) | lst (ds : List Dt)
abbrev DEnv := List (Option Ow)
def frz : Ow → Dt
  | .sh d => d
  | .lst ds => .lst ds
/-- an activation: what never changed, and the heap, at its entry; cells of its callers that it may change -/
structure Act where
  K : PySem.W.Frag
  B0 : Hp
  H0 : Hp
  O : Addr → Prop
structure SD (F : Act) (σ : L2.St) (H B : Hp) (env : DEnv) : Prop where
  len : σ.length = env.length
  ent : Stp F.O F.B0 F.H0 B H
  gr : Gr B H
  slot : ∀ (i : Nat) (d : Dt), env[i]? = some (some (.sh d)) → ∃ v, σ[i]? = some (some v) ∧ Rp F.K B v d
  own : ∀ (i : Nat) (ds : List Dt), env[i]? = some (some (.lst ds)) → ∃ (l : Addr) (vs : List V), σ[i]? = some (some (.ref l)) ∧ B l = none ∧ (F.H0 l = none ∨ F.O l) ∧ H l = some (.lst vs) ∧ Rps F.K B vs ds
  dist : ∀ (i j : Nat) (ds es : List Dt) (l : Addr), env[i]? = some (some (.lst ds)) → env[j]? = some (some (.lst es)) → σ[i]? = some (some (.ref l)) → σ[j]? = some (some (.ref l)) → i = j
/-- the cells of a list that a slot has for itself -/
def OA (σ : L2.St) (env : DEnv) (a : Addr) : Prop := ∃ (i : Nat) (ds : List Dt), env[i]? = some (some (.lst ds)) ∧ σ[i]? = some (some (.ref a))
/-- a value that an expression hands on; a list of .lst is new since the heap Hs, and nothing else leans on it -/
def WOk (F : Act) (Hs H B : Hp) (v : V) : Ow → Prop
  | .sh d => Rp F.K B v d
  | .lst ds => ∃ l vs, v = V.ref l ∧ B l = none ∧ Hs l = none ∧ H l = some (.lst vs) ∧ Rps F.K B vs ds
section
variable {F : Act} {σ : L2.St} {H B H' B' : Hp} {env env' : DEnv}
/-- a step that keeps the slots' own cells -/
theorem SD.step (S : SD F σ H B env) (t : Stp (fun _ => False) B H B' H') (g : Gr B' H') : SD F σ H' B' env where
  len := S.len
  ent := S.ent.trans t fun _ z => z.elim
  gr := g
  slot := fun i d e => let ⟨v, h1, h2⟩ := S.slot i d e; ⟨v, h1, h2.up t.bb⟩
  own := fun i ds e => by
    obtain ⟨l, vs, h1, h2, h3, h4, h5⟩ := S.own i ds e
    exact ⟨l, vs, h1, t.nw l h2 (by rw [h4]; exact fun q => by cases q) (fun z => z), h3, t.hh l _ h4 (fun ps q => by cases q) (fun z => z), h5.up t.bb⟩
  dist := S.dist
theorem SD.own0 (S : SD F σ H B env) {a : Addr} (h : OA σ env a) : B a = none ∧ (F.O a ∨ F.H0 a = none) ∧ ∃ vs, H a = some (.lst vs) := by
  obtain ⟨i, ds, e1, e2⟩ := h
  obtain ⟨l, vs, h1, h2, h3, h4, _⟩ := S.own i ds e1
  rw [h1] at e2
  cases e2
  exact ⟨h2, h3.symm, vs, h4⟩
theorem SD.fresh (S : SD F σ H B env) {p : Addr} (h : H p = none) : F.H0 p = none ∧ B p = none ∧ ¬ OA σ env p := by
  refine ⟨?_, ?_, fun z => ?_⟩
  · cases q : F.H0 p with
    | none => rfl
    | some o => exact absurd h (S.ent.th p (by rw [q]; exact fun z => by cases z))
  · cases q : B p with
    | none => rfl
    | some o =>
      rw [S.gr p o q] at h
      cases h
  · obtain ⟨_, _, vs, e⟩ := S.own0 z
    rw [h] at e
    cases e
/-- a new object that nothing leans on yet -/
theorem stp_new {p : Addr} {o : HO} (hp : H p = none) : Stp (fun _ => False) B H B (upd H p o) where
  bb := Gr.refl
  nw := fun _ e _ _ => e
  hh := fun a u e _ _ => by rw [upd_ne (ne_of_none e hp)]; exact e
  th := fun a e => by
    unfold upd
    split
    · exact fun q => by cases q
    · exact e
  tb := fun q ⟨ps, e, t⟩ => ⟨ps, by rw [upd_ne (ne_of_none e hp)]; exact e, t⟩
  bt := fun _ _ e => e
theorem gr_new {p : Addr} {o : HO} (g : Gr B H) (hp : H p = none) : Gr B (upd H p o) := fun a u e => by
  have := g a u e
  rw [upd_ne (ne_of_none this hp)]
  exact this
/-- .. that stays for ever -/
theorem stp_put {p : Addr} {o : HO} (g : Gr B H) (hp : H p = none) (ho : ∀ ps, o ≠ .tbl ps := by intro _ z; cases z) : Stp (fun _ => False) B H (upd B p o) (upd H p o) where
  bb := fun a u e => by
    rw [upd_ne (ne_of_none (g a u e) hp)]
    exact e
  nw := fun a e n _ => by
    by_cases z : a = p
    · rw [z] at n
      exact absurd hp n
    · rw [upd_ne z]
      exact e
  hh := (stp_new (B := B) hp).hh
  th := (stp_new (B := B) hp).th
  tb := (stp_new (B := B) hp).tb
  bt := fun a ps e => by
    by_cases z : a = p
    · rw [z, upd_same] at e
      exact absurd (Option.some.inj e) (ho ps)
    · rw [upd_ne z] at e
      exact e
theorem gr_put {p : Addr} {o : HO} (g : Gr B H) (hp : H p = none) : Gr (upd B p o) (upd H p o) := fun a u e => by
  by_cases z : a = p
  · rw [z, upd_same] at e ⊢
    exact e
  · rw [upd_ne z] at e ⊢
    exact g a u e
/-- a cell of one's own that stays as it is from now on -/
theorem stp_frz {l : Addr} {o : HO} (hb : B l = none) (hl : H l = some o) (ho : ∀ ps, o ≠ .tbl ps := by intro _ z; cases z) : Stp (fun a => a = l) B H (upd B l o) H where
  bb := fun a u e => by
    rw [upd_ne (fun z => by rw [z, hb] at e; cases e)]
    exact e
  nw := fun a e n z => by
    rw [upd_ne z]
    exact e
  hh := fun _ _ e _ _ => e
  th := fun _ e => e
  tb := fun _ e => e
  bt := fun a ps e => by
    by_cases z : a = l
    · rw [z, upd_same] at e
      exact absurd (Option.some.inj e) (ho ps)
    · rw [upd_ne z] at e
      exact e
theorem gr_frz {l : Addr} {o : HO} (g : Gr B H) (hl : H l = some o) : Gr (upd B l o) H := fun a u e => by
  by_cases z : a = l
  · rw [z, upd_same] at e
    rw [z, hl]
    exact e
  · rw [upd_ne z] at e
    exact g a u e
/-- what an expression's step leaves -/
structure Lft (F : Act) (σ : L2.St) (H B : Hp) (env : DEnv) (H' B' : Hp) (env' : DEnv) : Prop where
  sd : SD F σ H' B' env'
  stp : Stp (OA σ env) B H B' H'
  oa : ∀ a, OA σ env' a → OA σ env a
theorem Lft.refl (S : SD F σ H B env) : Lft F σ H B env H B env := ⟨S, Stp.refl, fun _ z => z⟩
theorem Lft.of (S : SD F σ H B env) (t : Stp (fun _ => False) B H B' H') (g : Gr B' H') : Lft F σ H B env H' B' env := ⟨S.step t g, t.mono fun _ z => z.elim, fun _ z => z⟩
theorem Lft.trans {H1 B1 H2 B2 : Hp} {env1 env2 : DEnv} (a : Lft F σ H B env H1 B1 env1) (b : Lft F σ H1 B1 env1 H2 B2 env2) : Lft F σ H B env H2 B2 env2 :=
  ⟨b.sd, a.stp.trans b.stp fun x z => .inl (a.oa x z), fun x z => a.oa x (b.oa x z)⟩
/-- a value ahead bears what it bore -/
theorem WOk.on {Hs H1 B1 H2 B2 : Hp} {env1 env2 : DEnv} {v : V} {o : Ow} (hoa : ∀ a, OA σ env1 a → Hs a ≠ none) (L : Lft F σ H1 B1 env1 H2 B2 env2) (h : WOk F Hs H1 B1 v o) : WOk F Hs H2 B2 v o := by
  cases o with
  | sh d => exact Rp.up L.stp.bb h
  | lst ds =>
    obtain ⟨l, vs, h1, h2, h3, h5, h6⟩ := h
    have n : ¬ OA σ env1 l := fun z => hoa l z h3
    exact ⟨l, vs, h1, L.stp.nw l h2 (by rw [h5]; exact fun q => by cases q) n, h3, L.stp.hh l _ h5 (fun ps q => by cases q) n, h6.up L.stp.bb⟩
theorem SD.oa_ne (S : SD F σ H B env) : ∀ a, OA σ env a → H a ≠ none := fun a z => by
  obtain ⟨_, _, vs, e⟩ := S.own0 z
  rw [e]
  exact fun q => by cases q
/-- a new list is frozen -/
theorem WOk.frz {v : V} {o : Ow} (S : SD F σ H B env) (L : Lft F σ H B env H' B' env') (h : WOk F H H' B' v o) : ∃ B2, Lft F σ H B env H' B2 env' ∧ Gr B' B2 ∧ Rp F.K B2 v (frz o) := by
  cases o with
  | sh d => exact ⟨B', L, Gr.refl, h⟩
  | lst ds =>
    obtain ⟨l, vs, rfl, h2, h3, h5, h6⟩ := h
    have t := stp_frz h2 h5
    have n : ¬ OA σ env' l := fun z => S.oa_ne l (L.oa l z) h3
    refine ⟨upd B' l (.lst vs), ⟨?_, L.stp.trans t fun a z => .inr (by rw [z]; exact h3), L.oa⟩, t.bb, .lst (.inl (.inl upd_same)) (h6.up t.bb)⟩
    refine ⟨L.sd.len, L.sd.ent.trans t fun a z => .inr (by rw [z]; exact (S.fresh h3).1), gr_frz L.sd.gr h5, fun i d e => ?_, fun i es e => ?_, L.sd.dist⟩
    · obtain ⟨w, e1, e2⟩ := L.sd.slot i d e
      exact ⟨w, e1, e2.up t.bb⟩
    · obtain ⟨l', vs', e1, e2, e3, e4, e5⟩ := L.sd.own i es e
      exact ⟨l', vs', e1, by rw [upd_ne (fun z => n ⟨i, es, e, by rw [← z]; exact e1⟩)]; exact e2, e3, e4, e5.up t.bb⟩
/-- a slot's own list is frozen -/
theorem SD.frz {i : Nat} {ds : List Dt} {l : Addr} (S : SD F σ H B env) (e : env[i]? = some (some (.lst ds))) (el : σ[i]? = some (some (.ref l))) :
    ∃ B', Lft F σ H B env H B' (env.set i (some (.sh (.lst ds)))) ∧ Rp F.K B' (.ref l) (.lst ds) := by
  obtain ⟨l', vs, h1, h2, h3, h4, h5⟩ := S.own i ds e
  rw [el] at h1
  cases h1
  have t := stp_frz h2 h4
  have r : Rp F.K (upd B l (.lst vs)) (.ref l) (.lst ds) := .lst (.inl (.inl upd_same)) (h5.up t.bb)
  have hi : i < env.length := (List.getElem?_eq_some_iff.mp e).1
  have other : ∀ (j : Nat) (o : Ow), (env.set i (some (.sh (.lst ds))))[j]? = some (some o) → j ≠ i → env[j]? = some (some o) := fun j o q n => by
    rw [List.getElem?_set_ne n.symm] at q
    exact q
  have self : (env.set i (some (.sh (.lst ds))))[i]? = some (some (.sh (.lst ds))) := by rw [List.getElem?_set_self hi]
  have lst_of : ∀ (j : Nat) (es : List Dt), (env.set i (some (.sh (.lst ds))))[j]? = some (some (.lst es)) → j ≠ i ∧ env[j]? = some (some (.lst es)) := fun j es q => by
    by_cases z : j = i
    · rw [z, self] at q
      cases q
    · exact ⟨z, other j _ q z⟩
  refine ⟨upd B l (.lst vs), ⟨⟨by rw [List.length_set]; exact S.len, S.ent.trans t fun a z => ?_, gr_frz S.gr h4, fun j d q => ?_, fun j es q => ?_, fun j k ds' es l' q1 q2 => S.dist j k ds' es l' (lst_of j _ q1).2 (lst_of k _ q2).2⟩,
    t.mono fun a z => ⟨i, ds, e, by rw [z]; exact el⟩, fun a ⟨j, es, q1, q2⟩ => ⟨j, es, (lst_of j _ q1).2, q2⟩⟩, r⟩
  · rw [z]
    exact h3.symm
  · by_cases z : j = i
    · rw [z, self] at q
      cases q
      exact ⟨_, by rw [z]; exact el, r⟩
    · obtain ⟨w, e1, e2⟩ := S.slot j d (other j _ q z)
      exact ⟨w, e1, e2.up t.bb⟩
  · obtain ⟨n, q'⟩ := lst_of j es q
    obtain ⟨l', vs', e1, e2, e3, e4, e5⟩ := S.own j es q'
    refine ⟨l', vs', e1, ?_, e3, e4, e5.up t.bb⟩
    rw [upd_ne (fun z => n (S.dist j i es ds l' q' e e1 (by rw [z]; exact el)))]
    exact e2
end
end DL
set_option Elab.async false
set_option linter.all false
set_option maxRecDepth 100000
/-! DL2: expressions as functions on the slots -/
namespace DL
open PySem PySem.Spec PyProof.Rows L2
abbrev Fe := DEnv → Option (Ow × DEnv)
abbrev Fp := DEnv → Option (Dt × DEnv)
abbrev Ft := DEnv → Option (Bool × DEnv)
abbrev Fa := DEnv → Option (List Ow × DEnv)
def pur (f : Fe) : Fp := fun env => match f env with
  | some (o, e) => some (frz o, e)
  | none => none
def ED (F : Act) (te : TE) (f : Fe) : Prop := ∀ (σ : L2.St) (H B : Hp) (env : DEnv) (o : Ow) (env' : DEnv), SD F σ H B env → f env = some (o, env') →
  ∀ Q : VK, (∀ (v : V) (H' B' : Hp), Lft F σ H B env H' B' env' → WOk F H H' B' v o → Q v H') → te σ H Q
def EP (F : Act) (te : TE) (f : Fp) : Prop := ∀ (σ : L2.St) (H B : Hp) (env : DEnv) (d : Dt) (env' : DEnv), SD F σ H B env → f env = some (d, env') →
  ∀ Q : VK, (∀ (v : V) (H' B' : Hp), Lft F σ H B env H' B' env' → Rp F.K B' v d → Q v H') → te σ H Q
def EB (F : Act) (tt : TT) (f : Ft) : Prop := ∀ (σ : L2.St) (H B : Hp) (env : DEnv) (b : Bool) (env' : DEnv), SD F σ H B env → f env = some (b, env') →
  ∀ Q : Bool → Hp → Prop, (∀ (H' B' : Hp), Lft F σ H B env H' B' env' → Q b H') → tt σ H Q
/-- arguments: each as it is -/
inductive WOks (F : Act) (Hs H B : Hp) : List V → List Ow → Prop
  | nil : WOks F Hs H B [] []
  | cons {v : V} {o : Ow} {vs : List V} {os : List Ow} : WOk F Hs H B v o → WOks F Hs H B vs os → WOks F Hs H B (v :: vs) (o :: os)
def EA (F : Act) (ta : TA) (f : Fa) : Prop := ∀ (σ : L2.St) (H B : Hp) (env : DEnv) (os : List Ow) (env' : DEnv), SD F σ H B env → f env = some (os, env') →
  ∀ Q : List V → Hp → Prop, (∀ (vs : List V) (H' B' : Hp), Lft F σ H B env H' B' env' → WOks F H H' B' vs os → Q vs H') → ta σ H Q
/-- arguments, frozen -/
def EQ (F : Act) (ta : TA) (f : DEnv → Option (List Dt × DEnv)) : Prop := ∀ (σ : L2.St) (H B : Hp) (env : DEnv) (ds : List Dt) (env' : DEnv), SD F σ H B env → f env = some (ds, env') →
  ∀ Q : List V → Hp → Prop, (∀ (vs : List V) (H' B' : Hp), Lft F σ H B env H' B' env' → Rps F.K B' vs ds → Q vs H') → ta σ H Q
section
variable {F : Act} {te ta tb : TE} {tt tu : TT} {f fa fb : Fe} {σ : L2.St} {H B : Hp} {env env' : DEnv}
theorem ED.pur (h : ED F te f) : EP F te (pur f) := by
  intro σ H B env d env' S e Q q
  unfold DL.pur at e
  cases hf : f env with
  | none => rw [hf] at e; cases e
  | some p =>
    obtain ⟨o, e'⟩ := p
    rw [hf] at e
    simp only [Option.some.injEq, Prod.mk.injEq] at e
    obtain ⟨rfl, rfl⟩ := e
    refine h σ H B env o e' S hf Q fun v H' B' L w => ?_
    obtain ⟨B2, L2, _, r⟩ := w.frz S L
    exact q v H' B2 L2 r
/-- data as it is, without a list for oneself -/
def shE (g : Fp) : Fe := fun env => match g env with
  | some (d, e) => some (.sh d, e)
  | none => none
theorem EP.ed {g : Fp} (h : EP F te g) : ED F te (shE g) := by
  intro σ H B env o env' S e Q q
  unfold shE at e
  cases hf : g env with
  | none => rw [hf] at e; cases e
  | some p =>
    obtain ⟨d, e'⟩ := p
    rw [hf] at e
    simp only [Option.some.injEq, Prod.mk.injEq] at e
    obtain ⟨rfl, rfl⟩ := e
    exact h σ H B env d e' S hf Q fun v H' B' L r => q v H' B' L r
/-! ### names, constants -/
def fVar (i : Nat) : Fe := fun env => match env[i]? with
  | some (some (.sh d)) => some (.sh d, env)
  | some (some (.lst ds)) => some (.sh (.lst ds), env.set i (some (.sh (.lst ds))))
  | _ => none
theorem ed_var (i : Nat) : ED F (tVar i) (fVar i) := by
  intro σ H B env o env' S e Q q
  unfold fVar at e
  split at e
  · rename_i d he
    simp only [Option.some.injEq, Prod.mk.injEq] at e
    obtain ⟨rfl, rfl⟩ := e
    obtain ⟨v, h1, h2⟩ := S.slot i d he
    exact ⟨v, h1, q v H B (Lft.refl S) h2⟩
  · rename_i ds he
    simp only [Option.some.injEq, Prod.mk.injEq] at e
    obtain ⟨rfl, rfl⟩ := e
    obtain ⟨l, vs, h1, _⟩ := S.own i ds he
    obtain ⟨B', L, r⟩ := S.frz he h1
    exact ⟨_, h1, q _ H B' L r⟩
  · cases e
/-- a constant -/
def fC (d : Dt) : Fe := fun env => some (.sh d, env)
theorem ed_c {v : V} {d : Dt} (r : ∀ H : Hp, Rp F.K H v d) : ED F (tC v) (fC d) := by
  intro σ H B env o env' S e Q q
  simp only [fC, Option.some.injEq, Prod.mk.injEq] at e
  obtain ⟨rfl, rfl⟩ := e
  exact q v H B (Lft.refl S) (r B)
/-! ### two operands, one operand -/
def fOp (g : Dt → Dt → Option Ow) (fa fb : Fe) : Fe := fun env => match pur fa env with
  | none => none
  | some (x, e1) => match pur fb e1 with
    | none => none
    | some (y, e2) => match g x y with
      | none => none
      | some o => some (o, e2)
/-- what an operation by values does to data -/
def RD2 (F : Act) (r : R2) (g : Dt → Dt → Option Ow) : Prop := ∀ (H B : Hp) (v w : V) (x y : Dt) (o : Ow), Gr B H → Rp F.K B v x → Rp F.K B w y → g x y = some o →
  ∀ Q : VK, (∀ (z : V) (H' B' : Hp), Stp (fun _ => False) B H B' H' → Gr B' H' → WOk F H H' B' z o → Q z H') → r v w H Q
theorem WOk.since {H H1 H2 B2 : Hp} {v : V} {o : Ow} (h : WOk F H1 H2 B2 v o) (t : ∀ a, H a ≠ none → H1 a ≠ none) : WOk F H H2 B2 v o := by
  cases o with
  | sh d => exact h
  | lst ds =>
    obtain ⟨l, vs, h1, h2, h3, h4⟩ := h
    refine ⟨l, vs, h1, h2, ?_, h4⟩
    cases q : H l with
    | none => rfl
    | some u => exact absurd h3 (t l (by rw [q]; exact fun z => by cases z))
theorem ed_op {r : R2} {g : Dt → Dt → Option Ow} (ha : ED F ta fa) (hb : ED F tb fb) (hr : RD2 F r g) : ED F (tOp r ta tb) (fOp g fa fb) := by
  intro σ H B env o env' S e Q q
  unfold fOp at e
  cases h1 : DL.pur fa env with
  | none => rw [h1] at e; cases e
  | some p1 =>
    obtain ⟨x, e1⟩ := p1
    rw [h1] at e
    dsimp only at e
    cases h2 : DL.pur fb e1 with
    | none => rw [h2] at e; cases e
    | some p2 =>
      obtain ⟨y, e2⟩ := p2
      rw [h2] at e
      dsimp only at e
      cases h3 : g x y with
      | none => rw [h3] at e; cases e
      | some o' =>
        rw [h3] at e
        simp only [Option.some.injEq, Prod.mk.injEq] at e
        obtain ⟨rfl, rfl⟩ := e
        refine ha.pur σ H B env x e1 S h1 _ fun v H1 B1 L1 r1 => ?_
        refine hb.pur σ H1 B1 e1 y e2 L1.sd h2 _ fun w H2 B2 L2 r2 => ?_
        refine hr H2 B2 v w x y o' L2.sd.gr (r1.up L2.stp.bb) r2 h3 Q fun z H3 B3 t g3 w3 => ?_
        exact q z H3 B3 ((L1.trans L2).trans (Lft.of L2.sd t g3)) (w3.since fun a n => L2.stp.th a (L1.stp.th a n))
def fUn (g : Dt → Option Ow) (fa : Fe) : Fe := fun env => match pur fa env with
  | none => none
  | some (x, e1) => match g x with
    | none => none
    | some o => some (o, e1)
def RD1 (F : Act) (r : V → Hp → VK → Prop) (g : Dt → Option Ow) : Prop := ∀ (H B : Hp) (v : V) (x : Dt) (o : Ow), Gr B H → Rp F.K B v x → g x = some o →
  ∀ Q : VK, (∀ (z : V) (H' B' : Hp), Stp (fun _ => False) B H B' H' → Gr B' H' → WOk F H H' B' z o → Q z H') → r v H Q
theorem ed_un {r : V → Hp → VK → Prop} {g : Dt → Option Ow} (ha : ED F ta fa) (hr : RD1 F r g) : ED F (tUn r ta) (fUn g fa) := by
  intro σ H B env o env' S e Q q
  unfold fUn at e
  cases h1 : DL.pur fa env with
  | none => rw [h1] at e; cases e
  | some p1 =>
    obtain ⟨x, e1⟩ := p1
    rw [h1] at e
    dsimp only at e
    cases h3 : g x with
    | none => rw [h3] at e; cases e
    | some o' =>
      rw [h3] at e
      simp only [Option.some.injEq, Prod.mk.injEq] at e
      obtain ⟨rfl, rfl⟩ := e
      refine ha.pur σ H B env x e1 S h1 _ fun v H1 B1 L1 r1 => ?_
      refine hr H1 B1 v x o' L1.sd.gr r1 h3 Q fun z H3 B3 t g3 w3 => ?_
      exact q z H3 B3 (L1.trans (Lft.of L1.sd t g3)) (w3.since L1.stp.th)
/-! ### tests -/
def fB (f : Fe) : Ft := fun env => match pur f env with
  | some (.bl b, e) => some (b, e)
  | _ => none
theorem fB_some {b : Bool} (h : fB f env = some (b, env')) : pur f env = some (.bl b, env') := by
  unfold fB at h
  split at h
  · rename_i b' e' he
    simp only [Option.some.injEq, Prod.mk.injEq] at h
    obtain ⟨rfl, rfl⟩ := h
    exact he
  · cases h
theorem eb_test (h : ED F te f) : EB F (tTest te) (fB f) := fun σ H B env b env' S e Q q =>
  h.pur σ H B env (.bl b) env' S (fB_some e) _ fun v H' B' L r => by
    cases r
    exact ⟨b, rfl, q H' B' L⟩
theorem eb_val (h : ED F te f) : EB F (tB te) (fB f) := fun σ H B env b env' S e Q q =>
  h.pur σ H B env (.bl b) env' S (fB_some e) _ fun v H' B' L r => by
    cases r
    exact ⟨b, rfl, q H' B' L⟩
def tNot' (f : Ft) : Ft := fun env => match f env with
  | some (b, e) => some (!b, e)
  | none => none
theorem eb_not {f : Ft} (h : EB F tt f) : EB F (tNot tt) (tNot' f) := by
  intro σ H B env b env' S e Q q
  unfold tNot' at e
  cases h1 : f env with
  | none => rw [h1] at e; cases e
  | some p =>
    obtain ⟨c, e1⟩ := p
    rw [h1] at e
    simp only [Option.some.injEq, Prod.mk.injEq] at e
    obtain ⟨rfl, rfl⟩ := e
    exact h σ H B env c e1 S h1 _ q
def fAnd (f g : Ft) : Ft := fun env => match f env with
  | none => none
  | some (c, e) => if c then g e else some (false, e)
def fOr (f g : Ft) : Ft := fun env => match f env with
  | none => none
  | some (c, e) => if c then some (true, e) else g e
theorem eb_and {f g : Ft} (h : EB F tt f) (k : EB F tu g) : EB F (tAnd tt tu) (fAnd f g) := by
  intro σ H B env b env' S e Q q
  unfold fAnd at e
  cases h1 : f env with
  | none => rw [h1] at e; cases e
  | some p =>
    obtain ⟨c, e1⟩ := p
    rw [h1] at e
    refine h σ H B env c e1 S h1 _ fun H1 B1 L1 => ?_
    cases c with
    | true => exact k σ H1 B1 e1 b env' L1.sd e Q fun H2 B2 L2 => q H2 B2 (L1.trans L2)
    | false =>
      simp only [Bool.false_eq_true, if_false, Option.some.injEq, Prod.mk.injEq] at e
      obtain ⟨rfl, rfl⟩ := e
      exact q H1 B1 L1
theorem eb_or {f g : Ft} (h : EB F tt f) (k : EB F tu g) : EB F (tOr tt tu) (fOr f g) := by
  intro σ H B env b env' S e Q q
  unfold fOr at e
  cases h1 : f env with
  | none => rw [h1] at e; cases e
  | some p =>
    obtain ⟨c, e1⟩ := p
    rw [h1] at e
    refine h σ H B env c e1 S h1 _ fun H1 B1 L1 => ?_
    cases c with
    | false => exact k σ H1 B1 e1 b env' L1.sd e Q fun H2 B2 L2 => q H2 B2 (L1.trans L2)
    | true =>
      simp only [if_true, Option.some.injEq, Prod.mk.injEq] at e
      obtain ⟨rfl, rfl⟩ := e
      exact q H1 B1 L1
/-- a test's answer as a value -/
def fV (f : Ft) : Fe := fun env => match f env with
  | some (b, e) => some (.sh (.bl b), e)
  | none => none
theorem ed_andV (ha : ED F ta fa) (hb : ED F tb fb) : ED F (tAndV ta tb) (fV (fAnd (fB fa) (fB fb))) := by
  intro σ H B env o env' S e Q q
  unfold fV at e
  cases h0 : fAnd (fB fa) (fB fb) env with
  | none => rw [h0] at e; cases e
  | some p =>
    obtain ⟨b, e0⟩ := p
    rw [h0] at e
    simp only [Option.some.injEq, Prod.mk.injEq] at e
    obtain ⟨rfl, rfl⟩ := e
    unfold fAnd at h0
    cases h1 : fB fa env with
    | none => rw [h1] at h0; cases h0
    | some p1 =>
      obtain ⟨c, e1⟩ := p1
      rw [h1] at h0
      refine ha.pur σ H B env (.bl c) e1 S (fB_some h1) _ fun v H1 B1 L1 r1 => ?_
      cases r1
      refine ⟨c, rfl, ?_⟩
      cases c with
      | true =>
        refine hb.pur σ H1 B1 e1 (.bl b) e0 L1.sd (fB_some h0) _ fun w H2 B2 L2 r2 => ?_
        exact q w H2 B2 (L1.trans L2) r2
      | false =>
        simp only [Bool.false_eq_true, if_false, Option.some.injEq, Prod.mk.injEq] at h0
        obtain ⟨rfl, rfl⟩ := h0
        exact q _ H1 B1 L1 (.bl false)
theorem ed_orV (ha : ED F ta fa) (hb : ED F tb fb) : ED F (tOrV ta tb) (fV (fOr (fB fa) (fB fb))) := by
  intro σ H B env o env' S e Q q
  unfold fV at e
  cases h0 : fOr (fB fa) (fB fb) env with
  | none => rw [h0] at e; cases e
  | some p =>
    obtain ⟨b, e0⟩ := p
    rw [h0] at e
    simp only [Option.some.injEq, Prod.mk.injEq] at e
    obtain ⟨rfl, rfl⟩ := e
    unfold fOr at h0
    cases h1 : fB fa env with
    | none => rw [h1] at h0; cases h0
    | some p1 =>
      obtain ⟨c, e1⟩ := p1
      rw [h1] at h0
      refine ha.pur σ H B env (.bl c) e1 S (fB_some h1) _ fun v H1 B1 L1 r1 => ?_
      cases r1
      refine ⟨c, rfl, ?_⟩
      cases c with
      | false =>
        refine hb.pur σ H1 B1 e1 (.bl b) e0 L1.sd (fB_some h0) _ fun w H2 B2 L2 r2 => ?_
        exact q w H2 B2 (L1.trans L2) r2
      | true =>
        simp only [if_true, Option.some.injEq, Prod.mk.injEq] at h0
        obtain ⟨rfl, rfl⟩ := h0
        exact q _ H1 B1 L1 (.bl true)
theorem ed_notV (ha : ED F ta fa) : ED F (tNotV ta) (fV (tNot' (fB fa))) := by
  intro σ H B env o env' S e Q q
  unfold fV tNot' at e
  cases h1 : fB fa env with
  | none => rw [h1] at e; cases e
  | some p1 =>
    obtain ⟨c, e1⟩ := p1
    rw [h1] at e
    simp only [Option.some.injEq, Prod.mk.injEq] at e
    obtain ⟨rfl, rfl⟩ := e
    refine ha.pur σ H B env (.bl c) e1 S (fB_some h1) _ fun v H1 B1 L1 r1 => ?_
    cases r1
    exact ⟨c, rfl, q _ H1 B1 L1 (.bl _)⟩
def fIf (c : Ft) (fa fb : Fe) : Fe := fun env => match c env with
  | none => none
  | some (b, e) => if b then fa e else fb e
theorem ed_if {c : Ft} (hc : EB F tt c) (ha : ED F ta fa) (hb : ED F tb fb) : ED F (tIf tt ta tb) (fIf c fa fb) := by
  intro σ H B env o env' S e Q q
  unfold fIf at e
  cases h1 : c env with
  | none => rw [h1] at e; cases e
  | some p =>
    obtain ⟨b, e1⟩ := p
    rw [h1] at e
    refine hc σ H B env b e1 S h1 _ fun H1 B1 L1 => ?_
    cases b with
    | true => exact ha σ H1 B1 e1 o env' L1.sd e Q fun v H2 B2 L2 w => q v H2 B2 (L1.trans L2) (w.since L1.stp.th)
    | false => exact hb σ H1 B1 e1 o env' L1.sd e Q fun v H2 B2 L2 w => q v H2 B2 (L1.trans L2) (w.since L1.stp.th)
/-! ### arguments -/
def aNil : Fa := fun env => some ([], env)
def aCons (f : Fe) (g : Fa) : Fa := fun env => match f env with
  | none => none
  | some (o, e) => match g e with
    | none => none
    | some (os, e') => some (o :: os, e')
theorem ea_nil : EA F tNil aNil := by
  intro σ H B env os env' S e Q q
  simp only [aNil, Option.some.injEq, Prod.mk.injEq] at e
  obtain ⟨rfl, rfl⟩ := e
  exact q [] H B (Lft.refl S) .nil
theorem WOks.since {H H1 H2 B2 : Hp} {vs : List V} {os : List Ow} (h : WOks F H1 H2 B2 vs os) (t : ∀ a, H a ≠ none → H1 a ≠ none) : WOks F H H2 B2 vs os := by
  induction h with
  | nil => exact .nil
  | cons w _ ih => exact .cons (w.since t) ih
theorem ea_cons {tr : TA} {g : Fa} (h : ED F te f) (k : EA F tr g) : EA F (tCons te tr) (aCons f g) := by
  intro σ H B env os env' S e Q q
  unfold aCons at e
  cases h1 : f env with
  | none => rw [h1] at e; cases e
  | some p1 =>
    obtain ⟨o, e1⟩ := p1
    rw [h1] at e
    dsimp only at e
    cases h2 : g e1 with
    | none => rw [h2] at e; cases e
    | some p2 =>
      obtain ⟨os', e2⟩ := p2
      rw [h2] at e
      simp only [Option.some.injEq, Prod.mk.injEq] at e
      obtain ⟨rfl, rfl⟩ := e
      refine h σ H B env o e1 S h1 _ fun v H1 B1 L1 w1 => ?_
      refine k σ H1 B1 e1 os' e2 L1.sd h2 _ fun vs H2 B2 L2 w2 => ?_
      exact q (v :: vs) H2 B2 (L1.trans L2) (.cons (w1.on (fun a z => S.oa_ne a (L1.oa a z)) L2) (w2.since L1.stp.th))
def purs (f : Fa) : DEnv → Option (List Dt × DEnv) := fun env => match f env with
  | some (os, e) => some (os.map frz, e)
  | none => none
theorem EA.purs {tr : TA} {g : Fa} (h : EA F tr g) (hnd : ∀ env os e, g env = some (os, e) → True) : True := trivial
def qNil : DEnv → Option (List Dt × DEnv) := fun env => some ([], env)
def qCons (f : Fe) (g : DEnv → Option (List Dt × DEnv)) : DEnv → Option (List Dt × DEnv) := fun env => match pur f env with
  | none => none
  | some (d, e) => match g e with
    | none => none
    | some (ds, e') => some (d :: ds, e')
theorem eq_nil : EQ F tNil qNil := by
  intro σ H B env os env' S e Q q
  simp only [qNil, Option.some.injEq, Prod.mk.injEq] at e
  obtain ⟨rfl, rfl⟩ := e
  exact q [] H B (Lft.refl S) .nil
theorem eq_cons {tr : TA} {g : DEnv → Option (List Dt × DEnv)} (h : ED F te f) (k : EQ F tr g) : EQ F (tCons te tr) (qCons f g) := by
  intro σ H B env os env' S e Q q
  unfold qCons at e
  cases h1 : DL.pur f env with
  | none => rw [h1] at e; cases e
  | some p1 =>
    obtain ⟨d, e1⟩ := p1
    rw [h1] at e
    dsimp only at e
    cases h2 : g e1 with
    | none => rw [h2] at e; cases e
    | some p2 =>
      obtain ⟨ds, e2⟩ := p2
      rw [h2] at e
      simp only [Option.some.injEq, Prod.mk.injEq] at e
      obtain ⟨rfl, rfl⟩ := e
      refine h.pur σ H B env d e1 S h1 _ fun v H1 B1 L1 w1 => ?_
      refine k σ H1 B1 e1 ds e2 L1.sd h2 _ fun vs H2 B2 L2 w2 => ?_
      exact q (v :: vs) H2 B2 (L1.trans L2) (.cons (w1.up L2.stp.bb) w2)
/-! ### displays -/
def fTup (g : DEnv → Option (List Dt × DEnv)) : Fe := fun env => match g env with
  | none => none
  | some (ds, e) => if Nat.ble ds.length 16777216 then some (.sh (.tup ds), e) else none
def fLst (g : DEnv → Option (List Dt × DEnv)) : Fe := fun env => match g env with
  | none => none
  | some (ds, e) => if Nat.ble ds.length 16777216 then some (.lst ds, e) else none
theorem szl {n : Nat} (h : Nat.ble n 16777216 = true) : n ≤ sizeLine := Nat.le_of_ble_eq_true h
theorem ed_tup {tr : TA} {g : DEnv → Option (List Dt × DEnv)} (h : EQ F tr g) : ED F (tTup tr) (fTup g) := by
  intro σ H B env o env' S e Q q
  unfold fTup at e
  cases h1 : g env with
  | none => rw [h1] at e; cases e
  | some p1 =>
    obtain ⟨ds, e1⟩ := p1
    rw [h1] at e
    dsimp only at e
    split at e
    · rename_i hz
      simp only [Option.some.injEq, Prod.mk.injEq] at e
      obtain ⟨rfl, rfl⟩ := e
      refine h σ H B env ds e1 S h1 _ fun vs H1 B1 L1 r => ⟨by rw [r.length]; exact szl hz, fun p hp => ?_⟩
      have t := stp_put (o := .tup vs) L1.sd.gr hp
      exact q _ _ _ (L1.trans (Lft.of L1.sd t (gr_put L1.sd.gr hp))) (Rp.tup (.inl (.inl upd_same)) (r.up t.bb))
    · cases e
theorem ed_lst {tr : TA} {g : DEnv → Option (List Dt × DEnv)} (h : EQ F tr g) : ED F (tLst tr) (fLst g) := by
  intro σ H B env o env' S e Q q
  unfold fLst at e
  cases h1 : g env with
  | none => rw [h1] at e; cases e
  | some p1 =>
    obtain ⟨ds, e1⟩ := p1
    rw [h1] at e
    dsimp only at e
    split at e
    · rename_i hz
      simp only [Option.some.injEq, Prod.mk.injEq] at e
      obtain ⟨rfl, rfl⟩ := e
      refine h σ H B env ds e1 S h1 _ fun vs H1 B1 L1 r => ⟨by rw [r.length]; exact szl hz, fun p hp => ?_⟩
      have t := stp_new (B := B1) (o := .lst vs) hp
      have hs : H p = none := by
        cases z : H p with
        | none => rfl
        | some u => exact absurd hp (L1.stp.th p (by rw [z]; exact fun q => by cases q))
      exact q _ _ _ (L1.trans (Lft.of L1.sd t (gr_new L1.sd.gr hp))) ⟨p, vs, rfl, (L1.sd.fresh hp).2.1, hs, upd_same, r⟩
    · cases e
/-! ### a new list from an operation by values: how the rules' own words meet ours -/
theorem wok_new {H B : Hp} {p : Addr} {vs : List V} {ds : List Dt} (g : Gr B H) (hp : H p = none) (r : Rps F.K B vs ds) :
    Stp (fun _ => False) B H B (upd H p (.lst vs)) ∧ Gr B (upd H p (.lst vs)) ∧ WOk F H (upd H p (.lst vs)) B (.ref p) (.lst ds) := by
  refine ⟨stp_new hp, gr_new g hp, p, vs, rfl, ?_, hp, upd_same, r⟩
  cases z : B p with
  | none => rfl
  | some u =>
    rw [g p u z] at hp
    cases hp
end
end DL
set_option Elab.async false
set_option linter.all false
set_option maxRecDepth 100000
/-! DL3: operators by data -/
namespace DL
open PySem PySem.Spec PyProof.Rows L2
section
variable {F : Act}
theorem RD2.or {r r' : R2} {g g' : Dt → Dt → Option Ow} (h : RD2 F r g) (h' : RD2 F r' g') :
    RD2 F (fun x y H Q => r x y H Q ∨ r' x y H Q) (fun x y => (g x y).or (g' x y)) := by
  intro H B v w x y o G rx ry e Q q
  dsimp only at e
  cases hg : g x y with
  | some o' =>
    rw [hg] at e
    have e' : o' = o := by simpa using e
    exact .inl (h H B v w x y o G rx ry (by rw [hg, e']) Q q)
  | none =>
    rw [hg] at e
    exact .inr (h' H B v w x y o G rx ry (by simpa using e) Q q)
theorem RD2.to {r : R2} {g g' : Dt → Dt → Option Ow} (h : RD2 F r g) (hg : ∀ x y o, g' x y = some o → g x y = some o) : RD2 F r g' :=
  fun H B v w x y o G rx ry e Q q => h H B v w x y o G rx ry (hg x y o e) Q q
/-- an operation that makes nothing -/
theorem RD2.flat {r : R2} {g : Dt → Dt → Option Ow} (h : ∀ (H B : Hp) (v w : V) (x y : Dt) (o : Ow), Gr B H → Rp F.K B v x → Rp F.K B w y → g x y = some o → ∃ z d, o = .sh d ∧ (∀ H : Hp, Rp F.K H z d) ∧ ∀ Q : VK, Q z H → r v w H Q) : RD2 F r g :=
  fun H B v w x y o G rx ry e Q q => by
    obtain ⟨z, d, rfl, rz, k⟩ := h H B v w x y o G rx ry e
    exact k Q (q z H B Stp.refl G (rz B))
theorem RD1.flat {r : V → Hp → VK → Prop} {g : Dt → Option Ow} (h : ∀ (H B : Hp) (v : V) (x : Dt) (o : Ow), Gr B H → Rp F.K B v x → g x = some o → ∃ z d, o = .sh d ∧ (∀ H : Hp, Rp F.K H z d) ∧ ∀ Q : VK, Q z H → r v H Q) : RD1 F r g :=
  fun H B v x o G rx e Q q => by
    obtain ⟨z, d, rfl, rz, k⟩ := h H B v x o G rx e
    exact k Q (q z H B Stp.refl G (rz B))
/-! ### ints -/
def gI (f : Int → Int → Int) : Dt → Dt → Option Ow
  | .int i, .int j => some (.sh (.int (f i j)))
  | _, _ => none
def gIC (c : Int → Int → Bool) (f : Int → Int → Int) : Dt → Dt → Option Ow
  | .int i, .int j => if c i j then some (.sh (.int (f i j))) else none
  | _, _ => none
def gIB (f : Int → Int → Bool) : Dt → Dt → Option Ow
  | .int i, .int j => some (.sh (.bl (f i j)))
  | _, _ => none
theorem rd_I {f : Int → Int → Int} : RD2 F (rI0 fun i j => .int (f i j)) (gI f) := .flat fun H B v w x y o G rx ry e => by
  unfold gI at e
  split at e
  · cases rx; cases ry
    simp only [Option.some.injEq] at e
    exact ⟨_, _, e.symm, fun _ => .int _, fun Q q => ⟨_, _, rfl, rfl, q⟩⟩
  · cases e
theorem rd_IC {C : Int → Int → Prop} {c : Int → Int → Bool} {f : Int → Int → Int} (hc : ∀ i j, c i j = true → C i j) : RD2 F (rI C fun i j => .int (f i j)) (gIC c f) := .flat fun H B v w x y o G rx ry e => by
  unfold gIC at e
  split at e
  · cases rx; cases ry
    split at e
    · rename_i hcc
      simp only [Option.some.injEq] at e
      exact ⟨_, _, e.symm, fun _ => .int _, fun Q q => ⟨_, _, rfl, rfl, hc _ _ hcc, q⟩⟩
    · cases e
  · cases e
theorem rd_IB {f : Int → Int → Bool} : RD2 F (rI0 fun i j => .bl (f i j)) (gIB f) := .flat fun H B v w x y o G rx ry e => by
  unfold gIB at e
  split at e
  · cases rx; cases ry
    simp only [Option.some.injEq] at e
    exact ⟨_, _, e.symm, fun _ => .bl _, fun Q q => ⟨_, _, rfl, rfl, q⟩⟩
  · cases e
/-! ### + -/
def rAddStr : R2 := fun x y H Q => ∃ i j, x = .str i ∧ y = .str j ∧ i.length + j.length ≤ sizeLine ∧ Q (.str (i ++ j)) H
def gAddStr : Dt → Dt → Option Ow
  | .str s, .str t => if Nat.ble (s.length + t.length) 16777216 then some (.sh (.str (s ++ t))) else none
  | _, _ => none
theorem str_app (s t : List Nat) : ((⟨s.toArray⟩ : Str) ++ ⟨t.toArray⟩) = ⟨(s ++ t).toArray⟩ := by
  show Str.mk (s.toArray ++ t.toArray) = _
  simp
theorem str_len (s : List Nat) : (⟨s.toArray⟩ : Str).length = s.length := by
  show s.toArray.size = _
  simp
theorem rd_addStr : RD2 F rAddStr gAddStr := .flat fun H B v w x y o G rx ry e => by
  unfold gAddStr at e
  split at e
  · rename_i s t
    cases rx; cases ry
    split at e
    · rename_i hz
      simp only [Option.some.injEq] at e
      exact ⟨_, _, e.symm, fun _ => .str _, fun Q q => ⟨_, _, rfl, rfl, by rw [str_len, str_len]; exact szl hz, by rw [str_app]; exact q⟩⟩
    · cases e
  · cases e
/-- xs + ys, any two lists -/
def rCatS (K : PySem.W.Frag) : R2 := fun x y H Q => ∃ l b xs zs, x = V.ref l ∧ y = V.ref b ∧ SqL K H l xs ∧ SqL K H b zs ∧ xs.length + zs.length ≤ sizeLine ∧ ∀ p, H p = none → Q (.ref p) (upd H p (.lst (xs ++ zs)))
theorem op_catS {X : Cx} : OpR X (binaryOp .Add) (rCatS X.K) := by
  intro pins s σ H x y v u Q I rx ry h
  obtain ⟨l, b, xs, zs, rfl, rfl, hl, hb, hz, q⟩ := h
  cases rx
  cases ry
  obtain ⟨i1, r1, ⟨⟨c1, d1, t1, s1⟩, n1, e1, hc1, hd1, ht1⟩, _⟩ := I.list hl
  obtain ⟨i2, r2, ⟨⟨c2, d2, t2, s2⟩, n2, e2, hc2, hd2, ht2⟩, _⟩ := I.list hb
  simp only at hc1 hd1 ht1 hc2 hd2 ht2
  subst hc1 hd1 ht1 hc2 hd2 ht2
  have hl1 := r1.length
  have hl2 := r2.length
  have hsz : i1.toArray.size + i2.toArray.size ≤ sizeLine := by
    rw [List.size_toArray, List.size_toArray, ← hl1, ← hl2]
    exact hz
  refine concat_meets ⟨_, e1, rfl⟩ ⟨_, e2, rfl⟩ noFill_list_add seq_list_add PySem.F.slot_list_add PySem.F.entry_list_add (PySem.F.args_list_add_2 _ _) (list_addW l b i1.toArray i2.toArray n1 n2 _ _ s1 s2 hsz) ⟨e1, e2, ?_⟩
  have ea : i1.toArray ++ i2.toArray = (i1 ++ i2).toArray := by simp
  rw [ea]
  exact ⟨.ref _, _, I.lnew (t' := s.toks) (r1.append r2) (by rw [List.length_append]; exact hz), rfl, q _ I.fresh⟩
def gCat : Dt → Dt → Option Ow
  | .lst xs, .lst ys => if Nat.ble (xs.length + ys.length) 16777216 then some (.lst (xs ++ ys)) else none
  | _, _ => none
theorem rd_cat : RD2 F (rCatS F.K) gCat := fun H B v w x y o G rx ry e Q q => by
  unfold gCat at e
  split at e
  · rename_i xs ys
    split at e
    · rename_i hz
      simp only [Option.some.injEq] at e
      subst e
      cases rx with
      | lst h1 r1 =>
        cases ry with
        | lst h2 r2 =>
          refine ⟨_, _, _, _, rfl, rfl, G.sqL h1, G.sqL h2, by rw [r1.length, r2.length]; exact szl hz, fun p hp => ?_⟩
          obtain ⟨t, g2, w2⟩ := wok_new (F := F) G hp (r1.app r2)
          exact q _ _ _ t g2 w2
    · cases e
  · cases e
def gCatT : Dt → Dt → Option Ow
  | .tup xs, .tup ys => if Nat.ble (xs.length + ys.length) 16777216 then some (.sh (.tup (xs ++ ys))) else none
  | _, _ => none
theorem rd_catT : RD2 F (rCatA F.K) gCatT := fun H B v w x y o G rx ry e Q q => by
  unfold gCatT at e
  split at e
  · rename_i xs ys
    split at e
    · rename_i hz
      simp only [Option.some.injEq] at e
      subst e
      cases rx with
      | tup h1 r1 =>
        cases ry with
        | tup h2 r2 =>
          rename_i a xs' b ys'
          have l1 := r1.length
          have l2 := r2.length
          refine ⟨_, _, _, _, rfl, rfl, G.sqT h1, G.sqT h2, by rw [l1, l2]; exact szl hz, fun hx => ?_, fun hx hy => ?_, fun _ _ p hp => ?_⟩
          · subst hx
            have e0 : xs = [] := List.eq_nil_of_length_eq_zero (by rw [← l1]; rfl)
            subst e0
            exact q _ H B Stp.refl G (Rp.tup h2 r2)
          · subst hy
            have e0 : ys = [] := List.eq_nil_of_length_eq_zero (by rw [← l2]; rfl)
            subst e0
            exact q _ H B Stp.refl G (by rw [List.append_nil]; exact Rp.tup h1 r1)
          · have t := stp_put (o := .tup (xs' ++ ys')) G hp
            exact q _ _ _ t (gr_put G hp) (Rp.tup (.inl (.inl upd_same)) ((r1.app r2).up t.bb))
    · cases e
  · cases e
def rAddU (K : PySem.W.Frag) : R2 := fun x y H Q => rI0 (fun i j => .int (i + j)) x y H Q ∨ (rAddStr x y H Q ∨ (rCatS K x y H Q ∨ rCatA K x y H Q))
theorem op_addU {X : Cx} : OpR X (binaryOp .Add) (rAddU X.K) := op_add.or (op_add_str.or (op_catS.or op_catA))
def gAdd : Dt → Dt → Option Ow
  | .int i, .int j => some (.sh (.int (i + j)))
  | .str s, .str t => if Nat.ble (s.length + t.length) 16777216 then some (.sh (.str (s ++ t))) else none
  | .lst xs, .lst ys => if Nat.ble (xs.length + ys.length) 16777216 then some (.lst (xs ++ ys)) else none
  | .tup xs, .tup ys => if Nat.ble (xs.length + ys.length) 16777216 then some (.sh (.tup (xs ++ ys))) else none
  | _, _ => none
theorem rd_addU : RD2 F (rAddU F.K) gAdd := (rd_I.or (rd_addStr.or (rd_cat.or rd_catT))).to fun x y o e => by
  cases x <;> cases y <;> first
    | (simp only [gAdd] at e; cases e; done)
    | (simp only [gAdd] at e; simp only [gI, gAddStr, gCat, gCatT, Option.or_none, Option.none_or, Option.some_or]; exact e)
/-! ### * -/
/-- an int is small: never reckoned by ones -/
def ibd (b : Nat) : Int → Bool
  | .ofNat n => Nat.ble n b
  | .negSucc n => Nat.ble n b
theorem ibd_ok {b : Nat} {j : Int} (h : ibd b j = true) : -((b : Int) + 1) ≤ j ∧ j ≤ (b : Int) := by
  cases j with
  | ofNat n =>
    have := Nat.le_of_ble_eq_true (show Nat.ble n b = true from h)
    simp only [Int.ofNat_eq_natCast]
    omega
  | negSucc n =>
    have := Nat.le_of_ble_eq_true (show Nat.ble n b = true from h)
    omega
theorem ibd_nat {b n : Nat} (h : n ≤ b) : ibd b (n : Int) = true := Nat.ble_eq_true_of_le h
theorem ibd_of {b : Nat} {j : Int} (h : -(b : Int) ≤ j ∧ j ≤ (b : Int)) : ibd b j = true := by
  cases j with
  | ofNat n => exact Nat.ble_eq_true_of_le (by have := h.2; simp only [Int.ofNat_eq_natCast] at this; omega)
  | negSucc n => exact Nat.ble_eq_true_of_le (by have := h.1; omega)
def mulOk (i j : Int) : Bool := ibd 18446744073709551614 i || ibd 18446744073709551614 j
theorem mulOk_ok (i j : Int) (h : mulOk i j = true) : CMul i j := by
  unfold mulOk at h
  rw [Bool.or_eq_true] at h
  have e : (2 : Int) ^ 64 = 18446744073709551616 := by decide
  show (-(2 ^ 64) < i ∧ i < 2 ^ 64) ∨ (-(2 ^ 64) < j ∧ j < 2 ^ 64)
  rw [e]
  rcases h with h | h
  · have := ibd_ok h
    omega
  · have := ibd_ok h
    omega
/-- text * int -/
def rMulS : R2 := fun x y H Q => ∃ (z : Str) (k : Int), x = .str z ∧ y = .int k ∧ 0 ≤ k ∧ k < 2 ^ 24 ∧ z.length * k.toNat ≤ sizeLine ∧ Q (.str ⟨(List.replicate k.toNat z.cps.toList).flatten.toArray⟩) H
theorem foldl_rep' (a : List Nat) : ∀ (n : Nat) (acc : List Nat), (List.replicate n a.toArray).foldl (· ++ ·) acc.toArray = (acc ++ (List.replicate n a).flatten).toArray
  | 0, acc => by simp
  | n + 1, acc => by
    rw [List.replicate_succ, List.foldl_cons, List.replicate_succ, List.flatten_cons]
    have e : acc.toArray ++ a.toArray = (acc ++ a).toArray := by simp
    rw [e, foldl_rep' a n (acc ++ a), List.append_assoc]
theorem op_mulS {X : Cx} : OpR X (binaryOp .Mult) rMulS := by
  intro pins s σ H x y v u Q I rx ry h
  obtain ⟨z, k, rfl, rfl, h0, h1, hz, q⟩ := h
  obtain ⟨t, rfl⟩ := rx
  obtain ⟨t', rfl⟩ := ry
  have hk : z.length * k.toNat ≤ 16777216 := hz
  refine PySem.P.mul_str (by rw [decide_eq_false (by omega), decide_eq_false (by omega)] <;> rfl) (fun h2 _ => ?_) (fun h2 _ => ?_) ?_
  · have hk1 : (1 : Int) ≤ k := by omega
    have : k * (z.length : Int) ≤ 16777216 := by
      have e : k = ((k.toNat : Nat) : Int) := (Int.toNat_of_nonneg h0).symm
      have h9 : ((z.length * k.toNat : Nat) : Int) ≤ ((16777216 : Nat) : Int) := Int.ofNat_le.mpr hk
      rw [Int.natCast_mul] at h9
      rw [e, Int.mul_comm]
      exact h9
    have h3 : (z.length : Int) ≤ 16777216 := by
      have : (z.length : Int) ≤ k * (z.length : Int) := by
        have := Int.mul_le_mul_of_nonneg_right hk1 (Int.natCast_nonneg z.length)
        omega
      omega
    have h5 : (16777216 : Int) ≤ (2 ^ 63 - 1) / k := by
      rw [Int.le_ediv_iff_mul_le (by omega)]
      have h6 : (16777216 : Int) * k ≤ 16777216 * 16777216 := Int.mul_le_mul_of_nonneg_left (by omega) (by omega)
      exact Int.le_trans h6 (by decide)
    omega
  · have e : ¬ (z.length * k.toNat > 16777216) := by omega
    simp [Builtin.Str.tooLong]
    exact hk
  · by_cases h2 : k < 1
    · rw [if_pos h2]
      have e : k.toNat = 0 := by omega
      rw [e] at q
      refine ⟨by decide, ?_⟩
      exact ⟨.str Str.empty, H, I.tok _, ⟨_, rfl⟩, q⟩
    · rw [if_neg h2]
      have zl : z.length = z.cps.toList.length := by
        show z.cps.size = _
        simp
      split
      · rename_i h3
        have h4 : k = 1 ∨ z.length = 0 := by
          simp only [Bool.or_eq_true, beq_iff_eq] at h3
          exact h3
        have e : (List.replicate k.toNat z.cps.toList).flatten = z.cps.toList := by
          rcases h4 with h4 | h4
          · rw [h4]
            simp
          · have : z.cps.toList = [] := List.eq_nil_of_length_eq_zero (by rw [← zl]; exact h4)
            rw [this]
            simp
        rw [e] at q
        exact ⟨.str z, H, I, ⟨_, rfl⟩, by simpa using q⟩
      · have e := foldl_rep' z.cps.toList k.toNat []
        simp only [List.nil_append, Array.toArray_toList] at e
        rw [e]
        refine ⟨?_, ?_⟩
        · show (List.replicate k.toNat z.cps.toList).flatten.toArray.size ≤ _
          rw [List.size_toArray, List.length_flatten, List.map_replicate, List.sum_replicate_nat, Nat.mul_comm, ← zl]
          exact hk
        · exact ⟨.str _, H, I.tok _, ⟨_, rfl⟩, q⟩
end
end DL
set_option Elab.async false
set_option linter.all false
set_option maxRecDepth 100000
/-! DL4: more operators by data, comparisons, subscripts, slices, built-in functions -/
namespace DL
open PySem PySem.Spec PyProof.Rows L2
section
variable {F : Act}
/-- 0 ≤ k < 2 ^ 24 -/
def k24 : Int → Bool
  | .ofNat n => Nat.ble n 16777215
  | .negSucc _ => false
theorem k24_ok {k : Int} (h : k24 k = true) : 0 ≤ k ∧ k < 16777216 := by
  cases k with
  | ofNat n =>
    have := Nat.le_of_ble_eq_true (show Nat.ble n 16777215 = true from h)
    simp only [Int.ofNat_eq_natCast]
    omega
  | negSucc n => cases h
def gMulS : Dt → Dt → Option Ow
  | .str s, .int k => if k24 k && Nat.ble (s.length * k.toNat) 16777216 then some (.sh (.str (List.replicate k.toNat s).flatten)) else none
  | _, _ => none
theorem rd_mulS : RD2 F rMulS gMulS := .flat fun H B v w x y o G rx ry e => by
  unfold gMulS at e
  split at e
  · rename_i s k
    cases rx; cases ry
    split at e
    · rename_i hz
      rw [Bool.and_eq_true] at hz
      obtain ⟨h01, h2⟩ := hz
      obtain ⟨h0, h1⟩ := k24_ok h01
      simp only [Option.some.injEq] at e
      refine ⟨_, _, e.symm, fun _ => .str _, fun Q q => ⟨_, _, rfl, rfl, h0, by omega, by rw [str_len]; exact szl h2, ?_⟩⟩
      simpa using q
    · cases e
  · cases e
def rMulU : R2 := fun x y H Q => rI CMul (fun i j => .int (i * j)) x y H Q ∨ rMulS x y H Q
theorem op_mulU {X : Cx} : OpR X (binaryOp .Mult) rMulU := op_mul.or op_mulS
def gMul : Dt → Dt → Option Ow := fun x y => (gIC mulOk (· * ·) x y).or (gMulS x y)
theorem rd_mulU : RD2 F rMulU gMul := (rd_IC mulOk_ok).or rd_mulS
/-! ### a new list times an int -/
def fRep (fa fb : Fe) : Fe := fun env => match fa env with
  | some (.lst ds, e1) => match pur fb e1 with
    | some (.int k, e2) => if k24 k && Nat.ble (ds.length * k.toNat) 16777216 then some (.lst (List.replicate k.toNat ds).flatten, e2) else none
    | _ => none
  | _ => none
theorem ed_rep {ta tb : TE} {fa fb : Fe} (ha : ED F ta fa) (hb : ED F tb fb) : ED F (tOp rRep ta tb) (fRep fa fb) := by
  intro σ H B env o env' S e Q q
  unfold fRep at e
  split at e
  · rename_i ds e1 h1
    split at e
    · rename_i k e2 h2
      split at e
      · rename_i hz
        rw [Bool.and_eq_true] at hz
        obtain ⟨h01, hz⟩ := hz
        obtain ⟨h0, hk⟩ := k24_ok h01
        simp only [Option.some.injEq, Prod.mk.injEq] at e
        obtain ⟨rfl, rfl⟩ := e
        refine ha σ H B env (.lst ds) e1 S h1 _ fun v H1 B1 L1 w1 => ?_
        refine hb.pur σ H1 B1 e1 (.int k) e2 L1.sd h2 _ fun w H2 B2 L2 r2 => ?_
        cases r2
        have w2 := w1.on (fun a z => S.oa_ne a (L1.oa a z)) L2
        obtain ⟨l, vs, rfl, n1, n2, n3, r⟩ := w2
        refine ⟨l, k, vs, rfl, rfl, n3, by omega, by omega, by rw [r.length]; exact szl hz, fun p hp => ?_⟩
        obtain ⟨t, g2, w3⟩ := wok_new (F := F) L2.sd.gr hp (r.rep k.toNat)
        exact q _ _ _ ((L1.trans L2).trans (Lft.of L2.sd t g2)) (w3.since fun a n => L2.stp.th a (L1.stp.th a n))
      · cases e
    · cases e
  · cases e
/-! ### // % ** -/
def divOk (_ j : Int) : Bool := decide (0 < j) && decide (j < 1073741824)
theorem divOk_ok (i j : Int) (h : divOk i j = true) : CDiv i j := by
  unfold divOk at h
  simp only [Bool.and_eq_true, decide_eq_true_eq] at h
  exact h
def gDiv : Dt → Dt → Option Ow := gIC divOk (· / ·)
theorem rd_div : RD2 F (rI CDiv fun i j => .int (i / j)) gDiv := rd_IC divOk_ok
def modOk (_ j : Int) : Bool := decide (0 < j)
def gMod : Dt → Dt → Option Ow := gIC modOk (· % ·)
theorem rd_mod : RD2 F (rI (fun _ j => 0 < j) fun i j => .int (i % j)) gMod := rd_IC fun _ _ h => of_decide_eq_true h
def powOk (i j : Int) : Bool := (match j with | .ofNat n => Nat.ble n 1000000 | .negSucc _ => false) && Nat.ble i.natAbs 18446744073709551615
theorem powOk_ok (i j : Int) (h : powOk i j = true) : CPow i j := by
  unfold powOk at h
  rw [Bool.and_eq_true] at h
  obtain ⟨h1, h2⟩ := h
  have h3 := Nat.le_of_ble_eq_true h2
  have e : (2 : Nat) ^ 64 = 18446744073709551616 := by decide
  cases j with
  | ofNat n =>
    have := Nat.le_of_ble_eq_true (show Nat.ble n 1000000 = true from h1)
    refine ⟨by simp only [Int.ofNat_eq_natCast]; omega, by simp only [Int.ofNat_eq_natCast]; omega, ?_⟩
    rw [e]
    omega
  | negSucc n => cases h1
def gPow : Dt → Dt → Option Ow := gIC powOk fun i j => i ^ j.toNat
theorem rd_pow : RD2 F (rI CPow fun i j => .int (i ^ j.toNat)) gPow := rd_IC powOk_ok
def gSub : Dt → Dt → Option Ow := gI (· - ·)
theorem rd_sub : RD2 F (rI0 fun i j => .int (i - j)) gSub := rd_I
def gNeg : Dt → Option Ow
  | .int i => some (.sh (.int (-i)))
  | _ => none
theorem rd_neg : RD1 F (rU fun i => .int (-i)) gNeg := .flat fun H B v x o G rx e => by
  unfold gNeg at e
  split at e
  · cases rx
    simp only [Option.some.injEq] at e
    exact ⟨_, _, e.symm, fun _ => .int _, fun Q q => ⟨_, rfl, q⟩⟩
  · cases e
/-! ### comparisons -/
def gEq : Dt → Dt → Option Ow := fun x y => if x.shp && y.shp then some (.sh (.bl (eqD x y))) else none
def gNe : Dt → Dt → Option Ow := fun x y => if x.shp && y.shp then some (.sh (.bl (!eqD x y))) else none
theorem rd_eq : RD2 F (rEqD F.K) gEq := .flat fun H B v w x y o G rx ry e => by
  unfold gEq at e
  split at e
  · rename_i hs
    rw [Bool.and_eq_true] at hs
    simp only [Option.some.injEq] at e
    exact ⟨.bl _, _, e.symm, fun _ => .bl _, fun Q q => ⟨_, _, (rx.up G).dp, (ry.up G).dp, shp_ok hs.1, shp_ok hs.2, by rw [eqD_py]; exact q⟩⟩
  · cases e
theorem rd_ne : RD2 F (rNeD F.K) gNe := .flat fun H B v w x y o G rx ry e => by
  unfold gNe at e
  split at e
  · rename_i hs
    rw [Bool.and_eq_true] at hs
    simp only [Option.some.injEq] at e
    exact ⟨.bl _, _, e.symm, fun _ => .bl _, fun Q q => ⟨_, _, (rx.up G).dp, (ry.up G).dp, shp_ok hs.1, shp_ok hs.2, by rw [eqD_py]; exact q⟩⟩
  · cases e
def gLt : Dt → Dt → Option Ow := gIB fun i j => decide (i < j)
def gLe : Dt → Dt → Option Ow := gIB fun i j => decide (i ≤ j)
def gGt : Dt → Dt → Option Ow := gIB fun i j => decide (j < i)
def gGe : Dt → Dt → Option Ow := gIB fun i j => decide (j ≤ i)
theorem rd_lt : RD2 F (rI0 fun i j => .bl (decide (i < j))) gLt := rd_IB
theorem rd_le : RD2 F (rI0 fun i j => .bl (decide (i ≤ j))) gLe := rd_IB
theorem rd_gt : RD2 F (rI0 fun i j => .bl (decide (j < i))) gGt := rd_IB
theorem rd_ge : RD2 F (rI0 fun i j => .bl (decide (j ≤ i))) gGe := rd_IB
/-! ### in -/
def rInT (K : PySem.W.Frag) (neg : Bool) : R2 := fun x y H Q => ∃ d ds, Dp K H x d ∧ Dp K H y (.tuple ds) ∧ SeqAt.shaped d = true ∧ SeqAt.shaped (.tuple ds) = true ∧ Q (.bl (if neg then !ds.any fun z => PyData.eqv z d else ds.any fun z => PyData.eqv z d)) H
theorem shaped_lt {ds : List PyData} (h : SeqAt.shaped (.tuple ds) = true) : SeqAt.shaped (.list ds) = true := h
theorem op_inT {X : Cx} (hu : X.A.units + 65 < cLine) : OpR X (compareOp .In) (rInT X.K false) := by
  intro pins s σ H x y v u Q I rx ry h
  obtain ⟨d, ds, hd, he, sd, se, q⟩ := h
  obtain ⟨as, r1⟩ := Dp.reads I d x v hd rx
  obtain ⟨bs, r2⟩ := Dp.reads I (.tuple ds) y u he ry
  exact SeqAt.in_tuple_reads r2 r1 (SeqAt.canLay_of_shaped se) (SeqAt.canLay_of_shaped sd) (room_in_shaped sd hu) ⟨.bl _, H, I, rfl, q⟩
theorem op_notInT {X : Cx} (hu : X.A.units + 65 < cLine) : OpR X (compareOp .NotIn) (rInT X.K true) := by
  intro pins s σ H x y v u Q I rx ry h
  obtain ⟨d, ds, hd, he, sd, se, q⟩ := h
  obtain ⟨as, r1⟩ := Dp.reads I d x v hd rx
  obtain ⟨bs, r2⟩ := Dp.reads I (.tuple ds) y u he ry
  exact SeqAt.notIn_tuple_reads r2 r1 (SeqAt.canLay_of_shaped se) (SeqAt.canLay_of_shaped sd) (room_in_shaped sd hu) ⟨.bl _, H, I, rfl, q⟩
def rInU (K : PySem.W.Frag) : R2 := fun x y H Q => (∃ (c : Nat) (z : Str), x = .str ⟨#[c]⟩ ∧ y = .str z ∧ Q (.bl (decide (c ∈ z.cps.toList))) H) ∨ (rInD K x y H Q ∨ rInT K false x y H Q)
def rNiU (K : PySem.W.Frag) : R2 := fun x y H Q => (∃ (c : Nat) (z : Str), x = .str ⟨#[c]⟩ ∧ y = .str z ∧ Q (.bl (!decide (c ∈ z.cps.toList))) H) ∨ (rNotInD K x y H Q ∨ rInT K true x y H Q)
theorem op_inU {X : Cx} (hu : X.A.units + 65 < cLine) : OpR X (compareOp .In) (rInU X.K) := op_in_sign.or ((op_inD hu).or (op_inT hu))
theorem op_niU {X : Cx} (hu : X.A.units + 65 < cLine) : OpR X (compareOp .NotIn) (rNiU X.K) := op_notIn_sign.or ((op_notInD hu).or (op_notInT hu))
def inB : Dt → Dt → Option Bool
  | .str [c], .str t => some (t.contains c)
  | x, .lst ds => if x.shp && (Dt.lst ds).shp then some (ds.any fun z => eqD z x) else none
  | x, .tup ds => if x.shp && (Dt.tup ds).shp then some (ds.any fun z => eqD z x) else none
  | _, _ => none
def gIn : Dt → Dt → Option Ow := fun x y => match inB x y with
  | some b => some (.sh (.bl b))
  | none => none
def gNi : Dt → Dt → Option Ow := fun x y => match inB x y with
  | some b => some (.sh (.bl (!b)))
  | none => none
theorem in_core {K : PySem.W.Frag} {H B : Hp} {v w : V} {x y : Dt} {b : Bool} (G : Gr B H) (rx : Rp K B v x) (ry : Rp K B w y) (e : inB x y = some b) :
    (∃ (c : Nat) (z : Str), v = .str ⟨#[c]⟩ ∧ w = .str z ∧ b = decide (c ∈ z.cps.toList)) ∨
    (∃ d ds, Dp K H v d ∧ Dp K H w (.list ds) ∧ SeqAt.shaped d = true ∧ SeqAt.shaped (.list ds) = true ∧ b = ds.any fun z => PyData.eqv z d) ∨
    (∃ d ds, Dp K H v d ∧ Dp K H w (.tuple ds) ∧ SeqAt.shaped d = true ∧ SeqAt.shaped (.tuple ds) = true ∧ b = ds.any fun z => PyData.eqv z d) := by
  unfold inB at e
  split at e
  · rename_i c t
    cases rx; cases ry
    simp only [Option.some.injEq] at e
    refine .inl ⟨c, ⟨t.toArray⟩, rfl, rfl, ?_⟩
    rw [← e, Bool.eq_iff_iff]
    simp
  · rename_i ds
    split at e
    · rename_i hs
      rw [Bool.and_eq_true] at hs
      simp only [Option.some.injEq] at e
      exact .inr (.inl ⟨x.py, pys ds, (rx.up G).dp, (ry.up G).dp, shp_ok hs.1, shp_ok (d := .lst ds) hs.2, by rw [← e, any_py]⟩)
    · cases e
  · rename_i ds
    split at e
    · rename_i hs
      rw [Bool.and_eq_true] at hs
      simp only [Option.some.injEq] at e
      exact .inr (.inr ⟨x.py, pys ds, (rx.up G).dp, (ry.up G).dp, shp_ok hs.1, shp_ok (d := .tup ds) hs.2, by rw [← e, any_py]⟩)
    · cases e
  · cases e
theorem rd_in : RD2 F (rInU F.K) gIn := .flat fun H B v w x y o G rx ry e => by
  unfold gIn at e
  split at e
  · rename_i b hb
    simp only [Option.some.injEq] at e
    refine ⟨.bl b, _, e.symm, fun _ => .bl _, fun Q q => ?_⟩
    rcases in_core G rx ry hb with ⟨c, z, h1, h2, h3⟩ | ⟨d, ds, h1, h2, h3, h4, h5⟩ | ⟨d, ds, h1, h2, h3, h4, h5⟩
    · exact .inl ⟨c, z, h1, h2, by rw [← h3]; exact q⟩
    · exact .inr (.inl ⟨d, ds, h1, h2, h3, h4, by rw [← h5]; exact q⟩)
    · exact .inr (.inr ⟨d, ds, h1, h2, h3, h4, by rw [← h5]; exact q⟩)
  · cases e
theorem rd_ni : RD2 F (rNiU F.K) gNi := .flat fun H B v w x y o G rx ry e => by
  unfold gNi at e
  split at e
  · rename_i b hb
    simp only [Option.some.injEq] at e
    refine ⟨.bl (!b), _, e.symm, fun _ => .bl _, fun Q q => ?_⟩
    rcases in_core G rx ry hb with ⟨c, z, h1, h2, h3⟩ | ⟨d, ds, h1, h2, h3, h4, h5⟩ | ⟨d, ds, h1, h2, h3, h4, h5⟩
    · exact .inl ⟨c, z, h1, h2, by rw [← h3]; exact q⟩
    · exact .inr (.inl ⟨d, ds, h1, h2, h3, h4, by rw [← h5]; exact q⟩)
    · exact .inr (.inr ⟨d, ds, h1, h2, h3, h4, by rw [if_pos rfl, ← h5]; exact q⟩)
  · cases e
/-! ### is None -/
def gIs : Dt → Dt → Option Ow
  | .non, .non => some (.sh (.bl true))
  | _, .non => some (.sh (.bl false))
  | _, _ => none
def gIsN : Dt → Dt → Option Ow
  | .non, .non => some (.sh (.bl false))
  | _, .non => some (.sh (.bl true))
  | _, _ => none
theorem rd_is : RD2 F rIsN gIs := .flat fun H B v w x y o G rx ry e => by
  cases rx <;> cases ry <;> simp only [gIs, Option.some.injEq] at e <;> first
    | exact ⟨.bl true, _, e.symm, fun _ => .bl _, fun Q q => ⟨rfl, q⟩⟩
    | exact ⟨.bl false, _, e.symm, fun _ => .bl _, fun Q q => ⟨rfl, by simpa using q⟩⟩
    | cases e
theorem rd_isn : RD2 F rNotN gIsN := .flat fun H B v w x y o G rx ry e => by
  cases rx <;> cases ry <;> simp only [gIsN, Option.some.injEq] at e <;> first
    | exact ⟨.bl false, _, e.symm, fun _ => .bl _, fun Q q => ⟨rfl, by simpa using q⟩⟩
    | exact ⟨.bl true, _, e.symm, fun _ => .bl _, fun Q q => ⟨rfl, by simpa using q⟩⟩
    | cases e
/-! ### subscripts -/
def atN (n : Nat) (i : Int) : Option Nat := if 0 ≤ i then (if i < n then some i.toNat else none) else if -(n : Int) ≤ i then some (i + n).toNat else none
theorem atN_ix (n : Nat) (i : Int) : ixN n i = atN n i := rfl
def gIx : Dt → Dt → Option Ow
  | .lst ds, .int i => match atN ds.length i with
    | some j => match ds[j]? with
      | some d => some (.sh d)
      | none => none
    | none => none
  | .tup ds, .int i => match atN ds.length i with
    | some j => match ds[j]? with
      | some d => some (.sh d)
      | none => none
    | none => none
  | .str s, .int i => if Nat.ble s.length 16777216 then match atN s.length i with
      | some j => match s[j]? with
        | some c => some (.sh (.str [c]))
        | none => none
      | none => none
    else none
  | _, _ => none
theorem at_rps {K : PySem.W.Frag} {B : Hp} {vs : List V} {ds : List Dt} {i : Int} {j : Nat} {d : Dt} (r : Rps K B vs ds) (h1 : atN ds.length i = some j) (h2 : ds[j]? = some d) : ∃ v, atI vs i = some v ∧ Rp K B v d := by
  obtain ⟨v, h3, h4⟩ := r.get h2
  refine ⟨v, ?_, h4⟩
  unfold atI
  rw [r.length, atN_ix, h1]
  exact h3
theorem rd_ix : RD2 F (rIx F.K) gIx := fun H B v w x y o G rx ry e Q q => by
  unfold gIx at e
  split at e
  · rename_i ds i
    split at e
    · rename_i j hj
      split at e
      · rename_i d hd
        simp only [Option.some.injEq] at e
        subst e
        cases ry
        cases rx with
        | lst h1 r1 =>
          obtain ⟨z, e1, e2⟩ := at_rps r1 hj hd
          exact .inl ⟨_, _, i, z, rfl, rfl, G.sqL h1, e1, q z H B Stp.refl G e2⟩
      · cases e
    · cases e
  · rename_i ds i
    split at e
    · rename_i j hj
      split at e
      · rename_i d hd
        simp only [Option.some.injEq] at e
        subst e
        cases ry
        cases rx with
        | tup h1 r1 =>
          obtain ⟨z, e1, e2⟩ := at_rps r1 hj hd
          exact .inr (.inl ⟨_, _, i, z, rfl, rfl, G.sqT h1, e1, q z H B Stp.refl G e2⟩)
      · cases e
    · cases e
  · rename_i s i
    split at e
    · rename_i hz
      split at e
      · rename_i j hj
        split at e
        · rename_i c hc
          simp only [Option.some.injEq] at e
          subst e
          cases ry
          cases rx
          refine .inr (.inr ⟨_, i, c, rfl, rfl, by rw [str_len]; exact szl hz, ?_, q _ H B Stp.refl G (.str [c])⟩)
          unfold atI
          rw [atN_ix]
          show (atN s.toArray.toList.length i).bind (fun j => s.toArray.toList[j]?) = some c
          have e0 : s.toArray.toList = s := by simp
          rw [e0, hj]
          exact hc
        · cases e
      · cases e
    · cases e
  · cases e
/-! ### slices -/
def ixS (n d : Nat) : Option Int → Nat
  | none => d
  | some v => if v < 0 then (v + (n : Int)).toNat else min v.toNat n
theorem ixS_eq (n d : Nat) (o : Option Int) : HT.sIx n d o = ixS n d o := by cases o <;> rfl
def cutD {α : Type} (xs : List α) (lo hi : Option Int) : List α := (xs.drop (ixS xs.length 0 lo)).take (ixS xs.length xs.length hi - ixS xs.length 0 lo)
theorem cutD_rps {K : PySem.W.Frag} {B : Hp} {vs : List V} {ds : List Dt} (r : Rps K B vs ds) (lo hi : Option Int) : Rps K B (cutV vs lo hi) (cutD ds lo hi) := by
  unfold cutV cutD
  rw [r.length, ixS_eq, ixS_eq]
  exact (r.drop _).take _
abbrev Fo := DEnv → Option (Option Int × DEnv)
def EO (F : Act) (to : TO) (f : Fo) : Prop := ∀ (σ : L2.St) (H B : Hp) (env : DEnv) (i : Option Int) (env' : DEnv), SD F σ H B env → f env = some (i, env') →
  ∀ Q : Option Int → Hp → Prop, (∀ (H' B' : Hp), Lft F σ H B env H' B' env' → Q i H') → to σ H Q
def oNone : Fo := fun env => some (none, env)
def oSome (f : Fe) : Fo := fun env => match pur f env with
  | some (.int i, e) => some (some i, e)
  | _ => none
theorem eo_none : EO F tNoPart oNone := by
  intro σ H B env i env' S e Q q
  simp only [oNone, Option.some.injEq, Prod.mk.injEq] at e
  obtain ⟨rfl, rfl⟩ := e
  exact q H B (Lft.refl S)
theorem eo_some {te : TE} {f : Fe} (h : ED F te f) : EO F (tPart te) (oSome f) := by
  intro σ H B env i env' S e Q q
  unfold oSome at e
  split at e
  · rename_i j e1 h1
    simp only [Option.some.injEq, Prod.mk.injEq] at e
    obtain ⟨rfl, rfl⟩ := e
    refine h.pur σ H B env (.int j) e1 S h1 _ fun v H' B' L r => ?_
    cases r
    exact ⟨j, rfl, q H' B' L⟩
  · cases e
def gSl : Dt → Option Int → Option Int → Option Ow
  | .lst ds, lo, hi => some (.lst (cutD ds lo hi))
  | .tup ds, lo, hi => some (.sh (.tup (cutD ds lo hi)))
  | .str s, lo, hi => if Nat.ble s.length 16777216 then some (.sh (.str (cutD s lo hi))) else none
  | _, _, _ => none
def fSl (fa : Fe) (fl fh : Fo) : Fe := fun env => match pur fa env with
  | none => none
  | some (x, e1) => match fl e1 with
    | none => none
    | some (lo, e2) => match fh e2 with
      | none => none
      | some (hi, e3) => match gSl x lo hi with
        | some o => some (o, e3)
        | none => none
def rSlU (K : PySem.W.Frag) : V → Option Int → Option Int → Hp → VK → Prop := fun x lo hi H Q => rSlL K x lo hi H Q ∨ (rSlA K x lo hi H Q ∨ rSlS x lo hi H Q)
theorem sl_U {X : Cx} : SlR X (rSlU X.K) := sl_list.or (sl_tupA.or sl_str)
theorem ed_sl {te : TE} {tl th : TO} {fa : Fe} {fl fh : Fo} (ha : ED F te fa) (hl : EO F tl fl) (hh : EO F th fh) : ED F (tSl (rSlU F.K) te tl th) (fSl fa fl fh) := by
  intro σ H B env o env' S e Q q
  unfold fSl at e
  cases h1 : DL.pur fa env with
  | none => rw [h1] at e; cases e
  | some p1 =>
    obtain ⟨x, e1⟩ := p1
    rw [h1] at e
    dsimp only at e
    cases h2 : fl e1 with
    | none => rw [h2] at e; cases e
    | some p2 =>
      obtain ⟨lo, e2⟩ := p2
      rw [h2] at e
      dsimp only at e
      cases h3 : fh e2 with
      | none => rw [h3] at e; cases e
      | some p3 =>
        obtain ⟨hi, e3⟩ := p3
        rw [h3] at e
        dsimp only at e
        cases h4 : gSl x lo hi with
        | none => rw [h4] at e; cases e
        | some o' =>
          rw [h4] at e
          simp only [Option.some.injEq, Prod.mk.injEq] at e
          obtain ⟨rfl, rfl⟩ := e
          refine ha.pur σ H B env x e1 S h1 _ fun v H1 B1 L1 r1 => ?_
          refine hl σ H1 B1 e1 lo e2 L1.sd h2 _ fun H2 B2 L2 => ?_
          refine hh σ H2 B2 e2 hi e3 L2.sd h3 _ fun H3 B3 L3 => ?_
          have L := (L1.trans L2).trans L3
          have r3 : Rp F.K B3 v x := r1.up (L2.stp.bb.trans L3.stp.bb)
          have G := L3.sd.gr
          unfold gSl at h4
          split at h4
          · simp only [Option.some.injEq] at h4
            subst h4
            cases r3 with
            | lst k1 k2 =>
              refine .inl ⟨_, _, rfl, G.sqL k1, fun p hp => ?_⟩
              obtain ⟨t, g2, w2⟩ := wok_new (F := F) G hp (cutD_rps k2 lo hi)
              exact q _ _ _ (L.trans (Lft.of L3.sd t g2)) (w2.since L.stp.th)
          · simp only [Option.some.injEq] at h4
            subst h4
            cases r3 with
            | tup k1 k2 =>
              rename_i ds xs'
              refine .inr (.inl ⟨_, _, rfl, G.sqT k1, fun hw => ?_, fun _ p hp => ?_⟩)
              · refine q _ _ _ L (Rp.tup k1 ?_)
                have hc := cutD_rps k2 lo hi
                unfold cutV at hc
                rw [hw.1, hw.2, Nat.sub_zero, List.drop_zero, List.take_length] at hc
                exact hc
              · have t := stp_put (o := HO.tup (cutV xs' lo hi)) G hp
                exact q _ _ _ (L.trans (Lft.of L3.sd t (gr_put G hp))) (Rp.tup (.inl (.inl upd_same)) ((cutD_rps k2 lo hi).up t.bb))
          · split at h4
            · rename_i hz
              simp only [Option.some.injEq] at h4
              subst h4
              cases r3
              refine .inr (.inr ⟨_, rfl, by rw [str_len]; exact szl hz, ?_⟩)
              have e9 : ∀ s : List Nat, cutS ⟨s.toArray⟩ lo hi = ⟨(cutD s lo hi).toArray⟩ := fun s => by
                unfold cutS cutD
                rw [str_len, ixS_eq, ixS_eq]
              rw [e9]
              exact q _ _ _ L (.str _)
            · cases h4
          · cases h4
end
end DL
set_option Elab.async false
set_option linter.all false
set_option maxRecDepth 100000
/-! DL5: built-in functions, methods of texts, statements -/
namespace DL
open PySem PySem.Spec PyProof.Rows L2
section
variable {F : Act}
/-! ### built-in functions by values -/
abbrev Fq := DEnv → Option (List Dt × DEnv)
def RC (F : Act) (r : List V → Hp → VK → Prop) (g : List Dt → Option Ow) : Prop := ∀ (H B : Hp) (vs : List V) (ds : List Dt) (o : Ow), Gr B H → Rps F.K B vs ds → g ds = some o →
  ∀ Q : VK, (∀ (z : V) (H' B' : Hp), Stp (fun _ => False) B H B' H' → Gr B' H' → WOk F H H' B' z o → Q z H') → r vs H Q
def fCB (g : List Dt → Option Ow) (fq : Fq) : Fe := fun env => match fq env with
  | none => none
  | some (ds, e1) => match g ds with
    | some o => some (o, e1)
    | none => none
theorem ed_cb {r : List V → Hp → VK → Prop} {g : List Dt → Option Ow} {ta : TA} {fq : Fq} (ha : EQ F ta fq) (hr : RC F r g) : ED F (tCB r ta) (fCB g fq) := by
  intro σ H B env o env' S e Q q
  unfold fCB at e
  cases h1 : fq env with
  | none => rw [h1] at e; cases e
  | some p1 =>
    obtain ⟨ds, e1⟩ := p1
    rw [h1] at e
    dsimp only at e
    cases h2 : g ds with
    | none => rw [h2] at e; cases e
    | some o' =>
      rw [h2] at e
      simp only [Option.some.injEq, Prod.mk.injEq] at e
      obtain ⟨rfl, rfl⟩ := e
      refine ha σ H B env ds e1 S h1 _ fun vs H1 B1 L1 r1 => ?_
      exact hr H1 B1 vs ds o' L1.sd.gr r1 h2 Q fun z H3 B3 t g3 w3 => q z H3 B3 (L1.trans (Lft.of L1.sd t g3)) (w3.since L1.stp.th)
theorem rps1 {K : PySem.W.Frag} {B : Hp} {vs : List V} {d : Dt} (r : Rps K B vs [d]) : ∃ v, vs = [v] ∧ Rp K B v d := by
  cases r with
  | cons h t => cases t; exact ⟨_, rfl, h⟩
theorem rps2 {K : PySem.W.Frag} {B : Hp} {vs : List V} {d e : Dt} (r : Rps K B vs [d, e]) : ∃ v w, vs = [v, w] ∧ Rp K B v d ∧ Rp K B w e := by
  cases r with
  | cons h t =>
    obtain ⟨w, rfl, h2⟩ := rps1 t
    exact ⟨_, _, rfl, h, h2⟩
def rLen1 (K : PySem.W.Frag) : List V → Hp → VK → Prop := fun xs H Q => ∃ x n, xs = [x] ∧ LenV K x H n ∧ Q (.int (n : Nat)) H
theorem call_len1 {X : Cx} : CallR X (.builtin "len") (rLen1 X.K) := call_len
def gLen : List Dt → Option Ow
  | [.str s] => if Nat.ble s.length 16777216 then some (.sh (.int (s.length : Nat))) else none
  | [.lst ds] => some (.sh (.int (ds.length : Nat)))
  | [.tup ds] => some (.sh (.int (ds.length : Nat)))
  | _ => none
theorem rc_len : RC F (rLen1 F.K) gLen := fun H B vs ds o G r e Q q => by
  unfold gLen at e
  split at e
  · obtain ⟨v, rfl, rv⟩ := rps1 r
    cases rv
    split at e
    · rename_i hz
      simp only [Option.some.injEq] at e
      subst e
      exact ⟨_, _, rfl, ⟨by rw [str_len]; exact szl hz, rfl⟩, q _ H B Stp.refl G (by rw [str_len]; exact Rp.int _)⟩
    · cases e
  · obtain ⟨v, rfl, rv⟩ := rps1 r
    simp only [Option.some.injEq] at e
    subst e
    cases rv with
    | lst h1 r1 => exact ⟨_, _, rfl, .inl ⟨_, G.sqL h1, rfl⟩, q _ H B Stp.refl G (by rw [r1.length]; exact Rp.int _)⟩
  · obtain ⟨v, rfl, rv⟩ := rps1 r
    simp only [Option.some.injEq] at e
    subst e
    cases rv with
    | tup h1 r1 => exact ⟨_, _, rfl, .inr ⟨_, G.sqT h1, rfl⟩, q _ H B Stp.refl G (by rw [r1.length]; exact Rp.int _)⟩
  · cases e
def rMx2 : List V → Hp → VK → Prop := fun xs H Q => ∃ i j, xs = [.int i, .int j] ∧ Q (.int (if j > i then j else i)) H
theorem call_mx2 {X : Cx} (hc : X.calm = true) : CallR X (.builtin "max") rMx2 := call_max2 hc
def gMx2 : List Dt → Option Ow
  | [.int i, .int j] => some (.sh (.int (if j > i then j else i)))
  | _ => none
theorem rc_mx2 : RC F rMx2 gMx2 := fun H B vs ds o G r e Q q => by
  unfold gMx2 at e
  split at e
  · obtain ⟨v, w, rfl, rv, rw'⟩ := rps2 r
    cases rv; cases rw'
    simp only [Option.some.injEq] at e
    subst e
    exact ⟨_, _, rfl, q _ H B Stp.refl G (Rp.int _)⟩
  · cases e
/-- a list of truths -/
def blsD : List Dt → Option (List Bool)
  | [] => some []
  | .bl b :: ds => match blsD ds with
    | some bs => some (b :: bs)
    | none => none
  | _ => none
theorem blsD_rps {K : PySem.W.Frag} {B : Hp} : ∀ {ds : List Dt} {bs : List Bool} {vs : List V}, blsD ds = some bs → Rps K B vs ds → vs = bs.map V.bl
  | [], _, _, e, r => by
    simp only [blsD, Option.some.injEq] at e
    subst e
    cases r
    rfl
  | d :: ds, bs, vs, e, r => by
    cases r with
    | cons h t =>
      cases d with
      | bl b =>
        cases h
        simp only [blsD] at e
        cases hb : blsD ds with
        | none => rw [hb] at e; cases e
        | some cs =>
          rw [hb] at e
          simp only [Option.some.injEq] at e
          subst e
          rw [blsD_rps hb t]
          rfl
      | _ => simp [blsD] at e
def gAll : List Dt → Option Ow
  | [.lst ds] => match blsD ds with
    | some bs => some (.sh (.bl (bs.all id)))
    | none => none
  | _ => none
def gAny : List Dt → Option Ow
  | [.lst ds] => match blsD ds with
    | some bs => some (.sh (.bl (bs.any id)))
    | none => none
  | _ => none
theorem rc_all : RC F (rAll F.K) gAll := fun H B vs ds o G r e Q q => by
  unfold gAll at e
  split at e
  · split at e
    · rename_i bs hb
      obtain ⟨v, rfl, rv⟩ := rps1 r
      simp only [Option.some.injEq] at e
      subst e
      cases rv with
      | lst h1 r1 => exact ⟨_, bs, rfl, by rw [← blsD_rps hb r1]; exact G.sqL h1, q _ H B Stp.refl G (Rp.bl _)⟩
    · cases e
  · cases e
theorem rc_any : RC F (rAny F.K) gAny := fun H B vs ds o G r e Q q => by
  unfold gAny at e
  split at e
  · split at e
    · rename_i bs hb
      obtain ⟨v, rfl, rv⟩ := rps1 r
      simp only [Option.some.injEq] at e
      subst e
      cases rv with
      | lst h1 r1 => exact ⟨_, bs, rfl, by rw [← blsD_rps hb r1]; exact G.sqL h1, q _ H B Stp.refl G (Rp.bl _)⟩
    · cases e
  · cases e
/-! ### methods of texts -/
/-- t.m(e): the reading of pe_m1 -/
def fM1 (g : Dt → Dt → Option Ow) (fa fb : Fe) : Fe := fOp g fa fb
def RM1 (F : Act) (r : V → List V → Hp → VK → Prop) (g : Dt → Dt → Option Ow) : Prop := ∀ (H B : Hp) (v w : V) (x y : Dt) (o : Ow), Gr B H → Rp F.K B v x → Rp F.K B w y → g x y = some o →
  (∃ a, v = .str a) ∧ ∀ Q : VK, (∀ (z : V) (H' B' : Hp), Stp (fun _ => False) B H B' H' → Gr B' H' → WOk F H H' B' z o → Q z H') → r v [w] H Q
theorem ed_m1 {r : V → List V → Hp → VK → Prop} {g : Dt → Dt → Option Ow} {ta tb : TE} {fa fb : Fe} (ha : ED F ta fa) (hb : ED F tb fb) (hr : RM1 F r g) (hg : ∀ x y o, g x y = some o → ∃ s, x = .str s) : ED F (tM1 r ta tb) (fM1 g fa fb) := by
  intro σ H B env o env' S e Q q
  unfold fM1 fOp at e
  cases h1 : DL.pur fa env with
  | none => rw [h1] at e; cases e
  | some p1 =>
    obtain ⟨x, e1⟩ := p1
    rw [h1] at e
    dsimp only at e
    cases h2 : DL.pur fb e1 with
    | none => rw [h2] at e; cases e
    | some p2 =>
      obtain ⟨y, e2⟩ := p2
      rw [h2] at e
      dsimp only at e
      cases h3 : g x y with
      | none => rw [h3] at e; cases e
      | some o' =>
        rw [h3] at e
        simp only [Option.some.injEq, Prod.mk.injEq] at e
        obtain ⟨rfl, rfl⟩ := e
        obtain ⟨s, rfl⟩ := hg _ _ _ h3
        refine ha.pur σ H B env _ e1 S h1 _ fun v H1 B1 L1 r1 => ?_
        refine ⟨by cases r1; exact ⟨_, rfl⟩, ?_⟩
        refine hb.pur σ H1 B1 e1 y e2 L1.sd h2 _ fun w H2 B2 L2 r2 => ?_
        refine (hr H2 B2 v w _ y o' L2.sd.gr (r1.up L2.stp.bb) r2 h3).2 Q fun z H3 B3 t g3 w3 => ?_
        exact q z H3 B3 ((L1.trans L2).trans (Lft.of L2.sd t g3)) (w3.since fun a n => L2.stp.th a (L1.stp.th a n))
def rSplit1 : V → List V → Hp → VK → Prop := fun x xs H Q => ∃ a b, x = .str a ∧ xs = [.str b] ∧ (b.length == 0) = false ∧ a.length + 2 ≤ sizeLine ∧ rNewStrs (Txt.split a b) H Q
/-- the parts of a text between the places of another one -/
def splitD (s t : List Nat) : List (List Nat) := (Txt.split ⟨s.toArray⟩ ⟨t.toArray⟩).map fun z => z.cps.toList
def gSplit : Dt → Dt → Option Ow
  | .str s, .str t => if (!t.isEmpty) && Nat.ble (s.length + 2) 16777216 then some (.lst ((splitD s t).map Dt.str)) else none
  | _, _ => none
theorem strs_rps {K : PySem.W.Frag} {B : Hp} : ∀ ys : List Str, Rps K B (ys.map V.str) ((ys.map fun z => z.cps.toList).map Dt.str)
  | [] => .nil
  | y :: ys => .cons (by have := Rp.str (K := K) (H := B) y.cps.toList; simpa using this) (strs_rps ys)
theorem rm_split : RM1 F rSplit1 gSplit := fun H B v w x y o G rx ry e => by
  unfold gSplit at e
  split at e
  · rename_i s t
    split at e
    · rename_i hz
      rw [Bool.and_eq_true] at hz
      simp only [Option.some.injEq] at e
      subst e
      cases rx; cases ry
      refine ⟨⟨_, rfl⟩, fun Q q => ⟨_, _, rfl, rfl, ?_, by rw [str_len]; exact szl hz.2, fun p hp => ?_⟩⟩
      · rw [str_len]
        cases t with
        | nil => simp at hz
        | cons _ _ => rfl
      · obtain ⟨t1, g2, w2⟩ := wok_new (F := F) G hp (strs_rps (Txt.split ⟨s.toArray⟩ ⟨t.toArray⟩))
        exact q _ _ _ t1 g2 w2
    · cases e
  · cases e
/-- a list of texts -/
def strsD : List Dt → Option (List (List Nat))
  | [] => some []
  | .str s :: ds => match strsD ds with
    | some ss => some (s :: ss)
    | none => none
  | _ => none
theorem strsD_rps {K : PySem.W.Frag} {B : Hp} : ∀ {ds : List Dt} {ss : List (List Nat)} {vs : List V}, strsD ds = some ss → Rps K B vs ds → vs = (ss.map fun s => (⟨s.toArray⟩ : Str)).map V.str
  | [], _, _, e, r => by
    simp only [strsD, Option.some.injEq] at e
    subst e
    cases r
    rfl
  | d :: ds, bs, vs, e, r => by
    cases r with
    | cons h t =>
      cases d with
      | str b =>
        cases h
        simp only [strsD] at e
        cases hb : strsD ds with
        | none => rw [hb] at e; cases e
        | some cs =>
          rw [hb] at e
          simp only [Option.some.injEq] at e
          subst e
          rw [strsD_rps hb t]
          rfl
      | _ => simp [strsD] at e
def rJoin1 (K : PySem.W.Frag) : V → List V → Hp → VK → Prop := fun x xs H Q => ∃ a p, ∃ ys : List Str, x = V.str a ∧ xs = [V.ref p] ∧ (SqL K H p (ys.map V.str) ∨ SqT K H p (ys.map V.str)) ∧ (ys.map (·.length)).sum + ys.length * a.length ≤ 16777216 ∧ Q (.str (Txt.join a ys)) H
/-- texts with another one between them -/
def joinD (sep : List Nat) : List (List Nat) → List Nat
  | [] => []
  | [s] => s
  | s :: r => s ++ sep ++ joinD sep r
theorem glued_one (sep : List Nat) : ∀ (l : List (List Nat)) (acc : List Nat), ((l.map fun s => (⟨s.toArray⟩ : Str)).foldl (fun acc p => acc ++ sep.toArray ++ p.cps) acc.toArray) = (acc ++ (l.map fun s => sep ++ s).flatten).toArray
  | [], acc => by simp
  | s :: r, acc => by
    rw [List.map_cons, List.foldl_cons]
    have e : acc.toArray ++ sep.toArray ++ s.toArray = (acc ++ sep ++ s).toArray := by simp
    show List.foldl _ (acc.toArray ++ sep.toArray ++ s.toArray) _ = _
    rw [e, glued_one sep r]
    simp
theorem joinD_cons (sep s : List Nat) : ∀ r : List (List Nat), joinD sep (s :: r) = s ++ (r.map fun s => sep ++ s).flatten
  | [] => by simp [joinD]
  | t :: r => by
    show s ++ sep ++ joinD sep (t :: r) = _
    rw [joinD_cons sep t r]
    simp
theorem join_eq (sep : List Nat) (ss : List (List Nat)) : Txt.join ⟨sep.toArray⟩ (ss.map fun s => (⟨s.toArray⟩ : Str)) = ⟨(joinD sep ss).toArray⟩ := by
  cases ss with
  | nil => rfl
  | cons s r =>
    show Str.mk (((r.map fun s => (⟨s.toArray⟩ : Str))).foldl (fun acc p => acc ++ sep.toArray ++ p.cps) s.toArray) = _
    rw [glued_one, joinD_cons]
def joinOk (sep : List Nat) (ss : List (List Nat)) : Bool := Nat.ble ((ss.map List.length).sum + ss.length * sep.length) 16777216
def gJoin : Dt → Dt → Option Ow
  | .str s, .lst ds => match strsD ds with
    | some ss => if joinOk s ss then some (.sh (.str (joinD s ss))) else none
    | none => none
  | .str s, .tup ds => match strsD ds with
    | some ss => if joinOk s ss then some (.sh (.str (joinD s ss))) else none
    | none => none
  | _, _ => none
theorem joinOk_ok {sep : List Nat} {ss : List (List Nat)} (h : joinOk sep ss = true) : ((ss.map fun s => (⟨s.toArray⟩ : Str)).map (·.length)).sum + (ss.map fun s => (⟨s.toArray⟩ : Str)).length * (⟨sep.toArray⟩ : Str).length ≤ 16777216 := by
  have h1 := Nat.le_of_ble_eq_true h
  rw [List.map_map, List.length_map, str_len]
  have e : ((fun x : Str => x.length) ∘ fun s : List Nat => (⟨s.toArray⟩ : Str)) = List.length := by
    funext s
    exact str_len s
  rw [e]
  exact h1
theorem rm_join : RM1 F (rJoin1 F.K) gJoin := fun H B v w x y o G rx ry e => by
  unfold gJoin at e
  split at e
  · split at e
    · rename_i ss hss
      split at e
      · rename_i hz
        simp only [Option.some.injEq] at e
        subst e
        cases rx
        cases ry with
        | lst h1 r1 =>
          refine ⟨⟨_, rfl⟩, fun Q q => ⟨_, _, ss.map fun s => (⟨s.toArray⟩ : Str), rfl, rfl, .inl (by rw [← strsD_rps hss r1]; exact G.sqL h1), joinOk_ok hz, ?_⟩⟩
          rw [join_eq]
          exact q _ H B Stp.refl G (Rp.str _)
      · cases e
    · cases e
  · split at e
    · rename_i ss hss
      split at e
      · rename_i hz
        simp only [Option.some.injEq] at e
        subst e
        cases rx
        cases ry with
        | tup h1 r1 =>
          refine ⟨⟨_, rfl⟩, fun Q q => ⟨_, _, ss.map fun s => (⟨s.toArray⟩ : Str), rfl, rfl, .inr (by rw [← strsD_rps hss r1]; exact G.sqT h1), joinOk_ok hz, ?_⟩⟩
          rw [join_eq]
          exact q _ H B Stp.refl G (Rp.str _)
      · cases e
    · cases e
  · cases e
theorem gSplit_str : ∀ x y o, gSplit x y = some o → ∃ s, x = .str s := fun x y o e => by
  cases x <;> first
    | exact ⟨_, rfl⟩
    | (simp [gSplit] at e)
theorem gJoin_str : ∀ x y o, gJoin x y = some o → ∃ s, x = .str s := fun x y o e => by
  cases x <;> first
    | exact ⟨_, rfl⟩
    | (simp [gJoin] at e)
/-! ### a call of a def of the text -/
/-- the promise: f of the data; the tables of T are as they have to be -/
def spD (K : PySem.W.Frag) (T : List Addr) (f : List Dt → Option Dt) : Sp := fun vs H Q _ => ∃ (B : Hp) (ds : List Dt) (d : Dt), Gr B H ∧ (∀ a ps, B a ≠ some (.tbl ps)) ∧ (∀ p ∈ T, GxR.TabG H p) ∧ Rps K B vs ds ∧ f ds = some d ∧
  ∀ (v : V) (H' B' : Hp), Stp (fun _ => False) B H B' H' → Gr B' H' → Rp K B' v d → Q v H'
def fCall (f : List Dt → Option Dt) (fq : Fq) : Fe := fun env => match fq env with
  | none => none
  | some (ds, e1) => match f ds with
    | some d => some (.sh d, e1)
    | none => none
/-- what an activation's entry has to be -/
structure Ent (F : Act) (T : List Addr) : Prop where
  nb : ∀ a ps, F.B0 a ≠ some (.tbl ps)
  tb : ∀ p ∈ T, GxR.TabG F.H0 p
theorem Ent.at {T : List Addr} {σ : L2.St} {H B : Hp} {env : DEnv} (E : Ent F T) (S : SD F σ H B env) : (∀ a ps, B a ≠ some (.tbl ps)) ∧ ∀ p ∈ T, GxR.TabG H p :=
  ⟨fun a ps e => E.nb a ps (S.ent.bt a ps e), fun p hp => S.ent.tb p (E.tb p hp)⟩
theorem ed_call {T : List Addr} (ET : Ent F T) {f : List Dt → Option Dt} {E : XK} {ta : TA} {fq : Fq} (ha : EQ F ta fq) : ED F (tCall (spD F.K T f) [] E ta) (fCall f fq) := by
  intro σ H B env o env' S e Q q
  unfold fCall at e
  cases h1 : fq env with
  | none => rw [h1] at e; cases e
  | some p1 =>
    obtain ⟨ds, e1⟩ := p1
    rw [h1] at e
    dsimp only at e
    cases h2 : f ds with
    | none => rw [h2] at e; cases e
    | some d =>
      rw [h2] at e
      simp only [Option.some.injEq, Prod.mk.injEq] at e
      obtain ⟨rfl, rfl⟩ := e
      refine ha σ H B env ds e1 S h1 _ fun vs H1 B1 L1 r1 => ?_
      obtain ⟨n1, n2⟩ := ET.at L1.sd
      refine ⟨B1, ds, d, L1.sd.gr, n1, n2, by rw [List.append_nil]; exact r1, h2, fun v H' B' t g r => ?_⟩
      exact q v H' B' (L1.trans (Lft.of L1.sd t g)) r
/-! ### all(.. for x in text) -/
def fAllT (pb : Nat → Bool) (fa : Fe) : Fe := fun env => match pur fa env with
  | some (.str s, e) => some (.sh (.bl (s.all pb)), e)
  | _ => none
theorem ed_allT {T : List Addr} (ET : Ent F T) {P : Addr} (hP : P ∈ T) {pb : Nat → Bool} {te : TE} {fa : Fe} (ha : ED F te fa) : ED F (GxR.tAllS P pb te) (fAllT pb fa) := by
  intro σ H B env o env' S e Q q
  unfold fAllT at e
  split at e
  · rename_i s e1 h1
    simp only [Option.some.injEq, Prod.mk.injEq] at e
    obtain ⟨rfl, rfl⟩ := e
    refine ha.pur σ H B env _ e1 S h1 _ fun v H1 B1 L1 r1 => ?_
    cases r1
    obtain ⟨n1, n2⟩ := ET.at L1.sd
    refine ⟨⟨s.toArray⟩, rfl, n2 P hP, fun H2 ⟨t1, t2⟩ => ?_⟩
    obtain ⟨ps0, e0, _⟩ := n2 P hP
    have stp : Stp (fun _ => False) B1 H1 B1 H2 := by
      refine ⟨Gr.refl, fun _ z _ _ => z, fun a u z n _ => ?_, fun a z => ?_, fun p z => ?_, fun _ _ z => z⟩
      · rw [t2 a (fun w => by rw [w, e0] at z; exact n _ (Option.some.inj z).symm)]
        exact z
      · by_cases w : a = P
        · rw [w]
          obtain ⟨ps, e9, _⟩ := t1
          rw [e9]
          exact fun y => by cases y
        · rw [t2 a w]
          exact z
      · by_cases w : p = P
        · rw [w]
          exact t1
        · obtain ⟨ps, e9, k⟩ := z
          exact ⟨ps, by rw [t2 p w]; exact e9, k⟩
    have g2 : Gr B1 H2 := fun a u z => by
      have z1 := L1.sd.gr a u z
      rw [t2 a (fun w => by rw [w] at z z1; rw [e0] at z1; exact n1 P ps0 (by rw [z, Option.some.inj z1]))]
      exact z1
    have := q _ _ _ (L1.trans (Lft.of L1.sd stp g2)) (Rp.bl (s.all pb))
    simpa using this
  · cases e
end
end DL
set_option Elab.async false
set_option linter.all false
set_option maxRecDepth 100000
/-! DL6: statements, loops, comprehensions -/
namespace DL
open PySem PySem.Spec PyProof.Rows L2
inductive Out where
  | nx (e : DEnv) | rt (d : Dt) (e : DEnv) | bk (e : DEnv) | ct (e : DEnv)
abbrev Fs := DEnv → Option Out
def Post (F : Act) (B : Hp) (D : Ends) : Out → Prop
  | .nx e => ∀ (σ' : L2.St) (H' B' : Hp), Gr B B' → SD F σ' H' B' e → D.nx σ' H'
  | .rt d e => ∀ (v : V) (σ' : L2.St) (H' B' : Hp), Gr B B' → SD F σ' H' B' e → Rp F.K B' v d → D.rt v H'
  | .bk e => ∀ (σ' : L2.St) (H' B' : Hp), Gr B B' → SD F σ' H' B' e → D.bk σ' H'
  | .ct e => ∀ (σ' : L2.St) (H' B' : Hp), Gr B B' → SD F σ' H' B' e → D.ct σ' H'
def ES (F : Act) (ts : TS) (fs : Fs) : Prop := ∀ (σ : L2.St) (H B : Hp) (env : DEnv) (o : Out), SD F σ H B env → fs env = some o → ∀ D : Ends, Post F B D o → ts D σ H
section
variable {F : Act} {te : TE} {tt : TT} {ts tu : TS} {f : Fe} {c : Ft} {fs gs : Fs}
theorem Post.up {B B' : Hp} {D : Ends} {o : Out} (g : Gr B B') (h : Post F B D o) : Post F B' D o := by
  cases o with
  | nx e => exact fun σ' H' B2 k => h σ' H' B2 (g.trans k)
  | rt d e => exact fun v σ' H' B2 k => h v σ' H' B2 (g.trans k)
  | bk e => exact fun σ' H' B2 k => h σ' H' B2 (g.trans k)
  | ct e => exact fun σ' H' B2 k => h σ' H' B2 (g.trans k)
def sSeq (f g : Fs) : Fs := fun env => match f env with
  | some (.nx e) => g e
  | r => r
theorem es_seq (h : ES F ts fs) (k : ES F tu gs) : ES F (tSeq ts tu) (sSeq fs gs) := by
  intro σ H B env o S e D P
  unfold sSeq at e
  cases h1 : fs env with
  | none => rw [h1] at e; cases e
  | some o1 =>
    rw [h1] at e
    refine h σ H B env o1 S h1 { D with nx := tu D } ?_
    cases o1 with
    | nx e1 => exact fun σ' H' B' g S' => k σ' H' B' e1 o S' e D (P.up g)
    | rt d e1 =>
      simp only [Option.some.injEq] at e
      subst e
      exact P
    | bk e1 =>
      simp only [Option.some.injEq] at e
      subst e
      exact P
    | ct e1 =>
      simp only [Option.some.injEq] at e
      subst e
      exact P
def sNx : Fs := fun env => some (.nx env)
theorem es_nx : ES F tNext sNx := by
  intro σ H B env o S e D P
  simp only [sNx, Option.some.injEq] at e
  subst e
  exact P σ H B Gr.refl S
theorem es_bk : ES F tBreak (fun env => some (.bk env)) := by
  intro σ H B env o S e D P
  simp only [Option.some.injEq] at e
  subst e
  exact P σ H B Gr.refl S
theorem es_ct : ES F tCont (fun env => some (.ct env)) := by
  intro σ H B env o S e D P
  simp only [Option.some.injEq] at e
  subst e
  exact P σ H B Gr.refl S
/-- a way that is never gone: whatever stands there -/
theorem es_never : ES F tNever (fun _ => none) := fun _ _ _ _ _ _ e => by cases e
theorem lt_of_slot {env : DEnv} {σ : L2.St} {H B : Hp} (S : SD F σ H B env) {i : Nat} (h : i < env.length) : i < σ.length := by rw [S.len]; exact h
/-- a value goes to a slot -/
theorem SD.put {σ : L2.St} {H B Hs : Hp} {env : DEnv} {v : V} {o : Ow} (i : Nat) (hi : i < env.length) (S : SD F σ H B env) (hoa : ∀ a, OA σ env a → Hs a ≠ none) (hs : ∀ a, Hs a = none → F.H0 a = none) (w : WOk F Hs H B v o) : SD F (σ.set i (some v)) H B (env.set i (some o)) := by
  have his : i < σ.length := lt_of_slot S hi
  have ne : ∀ j, j ≠ i → (σ.set i (some v))[j]? = σ[j]? := fun j n => List.getElem?_set_ne n.symm
  have ne' : ∀ j, j ≠ i → (env.set i (some o))[j]? = env[j]? := fun j n => List.getElem?_set_ne n.symm
  have self : (σ.set i (some v))[i]? = some (some v) := List.getElem?_set_self his
  have self' : (env.set i (some o))[i]? = some (some o) := List.getElem?_set_self hi
  refine ⟨by rw [List.length_set, List.length_set]; exact S.len, S.ent, S.gr, fun j d e => ?_, fun j ds e => ?_, fun j k ds es l e1 e2 e3 e4 => ?_⟩
  · by_cases z : j = i
    · rw [z, self'] at e
      simp only [Option.some.injEq] at e
      subst e
      exact ⟨v, by rw [z]; exact self, w⟩
    · rw [ne' j z] at e
      rw [ne j z]
      exact S.slot j d e
  · by_cases z : j = i
    · rw [z, self'] at e
      simp only [Option.some.injEq] at e
      subst e
      obtain ⟨l, vs, rfl, h2, h3, h4, h5⟩ := w
      exact ⟨l, vs, by rw [z]; exact self, h2, .inl (hs l h3), h4, h5⟩
    · rw [ne' j z] at e
      rw [ne j z]
      exact S.own j ds e
  · have no : ∀ k es, k ≠ i → env[k]? = some (some (.lst es)) → σ[k]? = some (some (.ref l)) → ∀ ds, o = .lst ds → v = .ref l → False := fun k es n q1 q2 ds eo ev => by
      subst eo
      obtain ⟨l', vs, e', h2, h3, _⟩ := w
      rw [ev] at e'
      cases e'
      exact hoa l ⟨k, es, q1, q2⟩ h3
    by_cases z1 : j = i
    · by_cases z2 : k = i
      · rw [z1, z2]
      · rw [z1, self'] at e1
        rw [z1, self] at e3
        simp only [Option.some.injEq] at e1 e3
        rw [ne' k z2] at e2
        rw [ne k z2] at e4
        exact (no k es z2 e2 e4 ds e1 e3).elim
    · rw [ne' j z1] at e1
      rw [ne j z1] at e3
      by_cases z2 : k = i
      · rw [z2, self'] at e2
        rw [z2, self] at e4
        simp only [Option.some.injEq] at e2 e4
        exact (no j ds z1 e1 e3 es e2 e4).elim
      · rw [ne' k z2] at e2
        rw [ne k z2] at e4
        exact S.dist j k ds es l e1 e2 e3 e4
theorem SD.h0 {σ : L2.St} {H B : Hp} {env : DEnv} (S : SD F σ H B env) : ∀ a, H a = none → F.H0 a = none := fun a z => (S.fresh z).1
def setE (env : DEnv) (i : Nat) (o : Ow) : Option DEnv := if Nat.blt i env.length then some (env.set i (some o)) else none
theorem setE_ok {env env' : DEnv} {i : Nat} {o : Ow} (h : setE env i o = some env') : i < env.length ∧ env' = env.set i (some o) := by
  unfold setE at h
  split at h
  · rename_i hb
    simp only [Option.some.injEq] at h
    exact ⟨Nat.le_of_ble_eq_true hb, h.symm⟩
  · cases h
/-- x = e -/
def sSet (i : Nat) (f : Fe) : Fs := fun env => match f env with
  | none => none
  | some (o, e) => match setE e i o with
    | some e' => some (.nx e')
    | none => none
theorem es_set {i : Nat} (h : ED F te f) : ES F (tAsg te (gName i)) (sSet i f) := by
  intro σ H B env o S e D P
  unfold sSet at e
  cases h1 : f env with
  | none => rw [h1] at e; cases e
  | some p =>
    obtain ⟨w, e1⟩ := p
    rw [h1] at e
    dsimp only at e
    cases h2 : setE e1 i w with
    | none => rw [h2] at e; cases e
    | some e2 =>
      rw [h2] at e
      simp only [Option.some.injEq] at e
      subst e
      obtain ⟨hi, rfl⟩ := setE_ok h2
      refine h σ H B env w e1 S h1 _ fun v H' B' L k => ?_
      exact P _ _ B' L.stp.bb (L.sd.put i hi (fun a z => S.oa_ne a (L.oa a z)) S.h0 k)
/-- return e -/
def sRet (f : Fe) : Fs := fun env => match pur f env with
  | some (d, e) => some (.rt d e)
  | none => none
theorem es_ret (h : ED F te f) : ES F (tRet te) (sRet f) := by
  intro σ H B env o S e D P
  unfold sRet at e
  cases h1 : DL.pur f env with
  | none => rw [h1] at e; cases e
  | some p =>
    obtain ⟨d, e1⟩ := p
    rw [h1] at e
    simp only [Option.some.injEq] at e
    subst e
    exact h.pur σ H B env d e1 S h1 _ fun v H' B' L r => P v σ H' B' L.stp.bb L.sd r
def sRetN : Fs := fun env => some (.rt .non env)
theorem es_retN : ES F tRetN sRetN := by
  intro σ H B env o S e D P
  simp only [sRetN, Option.some.injEq] at e
  subst e
  exact P .non σ H B Gr.refl S .non
def sIf (c : Ft) (f g : Fs) : Fs := fun env => match c env with
  | none => none
  | some (b, e) => if b then f e else g e
theorem es_if (h : EB F tt c) (k1 : ES F ts fs) (k2 : ES F tu gs) : ES F (tIfS tt ts tu) (sIf c fs gs) := by
  intro σ H B env o S e D P
  unfold sIf at e
  cases h1 : c env with
  | none => rw [h1] at e; cases e
  | some p =>
    obtain ⟨b, e1⟩ := p
    rw [h1] at e
    refine h σ H B env b e1 S h1 _ fun H1 B1 L1 => ?_
    cases b with
    | true => exact k1 σ H1 B1 e1 o L1.sd e D (P.up L1.stp.bb)
    | false => exact k2 σ H1 B1 e1 o L1.sd e D (P.up L1.stp.bb)
/-- e; -/
def sDrop (f : Fe) : Fs := fun env => match f env with
  | some (_, e) => some (.nx e)
  | none => none
theorem es_drop (h : ED F te f) : ES F (tDrop te) (sDrop f) := by
  intro σ H B env o S e D P
  unfold sDrop at e
  cases h1 : f env with
  | none => rw [h1] at e; cases e
  | some p =>
    obtain ⟨w, e1⟩ := p
    rw [h1] at e
    simp only [Option.some.injEq] at e
    subst e
    exact h σ H B env w e1 S h1 _ fun v H' B' L k => P σ H' B' L.stp.bb L.sd
/-- x op= e, x data -/
def sAug (i : Nat) (g : Dt → Dt → Option Ow) (f : Fe) : Fs := fun env => match env[i]? with
  | some (some (.sh x)) => match pur f env with
    | none => none
    | some (y, e1) => match g x y with
      | none => none
      | some o => match setE e1 i o with
        | some e2 => some (.nx e2)
        | none => none
  | _ => none
theorem es_aug {i : Nat} {r : TIp} {g : Dt → Dt → Option Ow} (h : ED F te f) (hr : RD2 F r g) : ES F (tAug i te r) (sAug i g f) := by
  intro σ H B env o S e D P
  unfold sAug at e
  split at e
  · rename_i x hx
    cases h1 : DL.pur f env with
    | none => rw [h1] at e; cases e
    | some p =>
      obtain ⟨y, e1⟩ := p
      rw [h1] at e
      dsimp only at e
      cases h2 : g x y with
      | none => rw [h2] at e; cases e
      | some w =>
        rw [h2] at e
        dsimp only at e
        cases h3 : setE e1 i w with
        | none => rw [h3] at e; cases e
        | some e2 =>
          rw [h3] at e
          simp only [Option.some.injEq] at e
          subst e
          obtain ⟨hi, rfl⟩ := setE_ok h3
          obtain ⟨v, k1, k2⟩ := S.slot i x hx
          refine ⟨v, k1, h.pur σ H B env y e1 S h1 _ fun u H1 B1 L1 r1 => ?_⟩
          refine hr H1 B1 v u x y w L1.sd.gr (k2.up L1.stp.bb) r1 h2 _ fun z H2 B2 t g2 w2 => ?_
          have L2 := L1.trans (Lft.of L1.sd t g2)
          exact P _ _ B2 L2.stp.bb (L2.sd.put i hi (fun a z => S.oa_ne a (L2.oa a z)) S.h0 (w2.since L1.stp.th))
  · cases e
/-- x.append(e), x a list of one's own -/
def sApp (i : Nat) (f : Fe) : Fs := fun env => match env[i]? with
  | some (some (.lst _)) => match pur f env with
    | none => none
    | some (d, e1) => match e1[i]? with
      | some (some (.lst ds)) => if Nat.blt ds.length 16777216 then some (.nx (e1.set i (some (.lst (ds ++ [d]))))) else none
      | _ => none
  | _ => none
/-- the list of a slot is changed -/
theorem SD.mut {σ : L2.St} {H B : Hp} {env : DEnv} {i : Nat} {ds es : List Dt} {l : Addr} {ws : List V} (S : SD F σ H B env) (e : env[i]? = some (some (.lst ds))) (el : σ[i]? = some (some (.ref l))) (r : Rps F.K B ws es) :
    SD F σ (upd H l (.lst ws)) B (env.set i (some (.lst es))) := by
  obtain ⟨l', vs, h1, h2, h3, h4, h5⟩ := S.own i ds e
  rw [el] at h1
  cases h1
  have hi : i < env.length := (List.getElem?_eq_some_iff.mp e).1
  have self : (env.set i (some (.lst es)))[i]? = some (some (.lst es)) := List.getElem?_set_self hi
  have ne' : ∀ j, j ≠ i → (env.set i (some (.lst es)))[j]? = env[j]? := fun j n => List.getElem?_set_ne n.symm
  have toL : ∀ (j : Nat) (x : List Dt), (env.set i (some (.lst es)))[j]? = some (some (.lst x)) → ∃ y, env[j]? = some (some (.lst y)) := fun j x q => by
    by_cases z : j = i
    · rw [z]
      exact ⟨ds, e⟩
    · rw [ne' j z] at q
      exact ⟨x, q⟩
  have stp : Stp (fun a => a = l) B H B (upd H l (.lst ws)) := by
    refine ⟨Gr.refl, fun _ q _ _ => q, fun a u q _ n => by rw [upd_ne n]; exact q, fun a q => ?_, fun p ⟨ps, q, k⟩ => ⟨ps, ?_, k⟩, fun _ _ q => q⟩
    · unfold upd
      split
      · exact fun z => by cases z
      · exact q
    · rw [upd_ne (fun z => by rw [z, h4] at q; cases q)]
      exact q
  refine ⟨by rw [List.length_set]; exact S.len, S.ent.trans stp fun a z => by rw [z]; exact h3.symm, fun a u q => ?_, fun j d q => ?_, fun j x q => ?_, fun j k x y l' q1 q2 => ?_⟩
  · rw [upd_ne (fun z => by rw [z, h2] at q; cases q)]
    exact S.gr a u q
  · by_cases z : j = i
    · rw [z, self] at q
      cases q
    · rw [ne' j z] at q
      exact S.slot j d q
  · by_cases z : j = i
    · rw [z, self] at q
      simp only [Option.some.injEq, Ow.lst.injEq] at q
      subst q
      exact ⟨l, ws, by rw [z]; exact el, h2, h3, upd_same, r⟩
    · rw [ne' j z] at q
      obtain ⟨l', vs', k1, k2, k3, k4, k5⟩ := S.own j x q
      refine ⟨l', vs', k1, k2, k3, ?_, k5⟩
      rw [upd_ne (fun w => z (S.dist j i x ds l' q e k1 (by rw [w]; exact el)))]
      exact k4
  · obtain ⟨x', q1'⟩ := toL j x q1
    obtain ⟨y', q2'⟩ := toL k y q2
    exact S.dist j k x' y' l' q1' q2'
theorem es_app {i : Nat} (h : ED F te f) : ES F (tDrop (tBM F.K "list" rAppend (tVar i) (tCons te tNil))) (sApp i f) := by
  intro σ H B env o S e D P
  unfold sApp at e
  split at e
  · rename_i ds0 hx
    obtain ⟨l, vs0, k1, k2, k3, k4, k5⟩ := S.own i ds0 hx
    cases h1 : DL.pur f env with
    | none => rw [h1] at e; cases e
    | some p =>
      obtain ⟨d, e1⟩ := p
      rw [h1] at e
      dsimp only at e
      split at e
      · rename_i ds hds
        split at e
        · rename_i hz
          simp only [Option.some.injEq] at e
          subst e
          refine ⟨.ref l, k1, .inl ⟨rfl, vs0, .inl (.inl k4)⟩, h.pur σ H B env d e1 S h1 _ fun u H1 B1 L1 r1 => ?_⟩
          obtain ⟨l', vs, m1, m2, m3, m4, m5⟩ := L1.sd.own i ds hds
          rw [k1] at m1
          cases m1
          refine ⟨l, vs, u, rfl, rfl, m4, by rw [m5.length]; exact Nat.le_of_ble_eq_true hz, ?_⟩
          exact P _ _ B1 L1.stp.bb (L1.sd.mut hds k1 (m5.app (.cons r1 .nil)))
        · cases e
      · cases e
  · cases e
/-! ### targets -/
/-- two rows of slots are alike but at some places -/
def Agr (is : List Nat) (σ σ' : L2.St) : Prop := σ'.length = σ.length ∧ ∀ j, j ∉ is → σ'[j]? = σ[j]?
theorem Agr.trans {is js : List Nat} {σ σ1 σ2 : L2.St} (a : Agr is σ σ1) (b : Agr js σ1 σ2) : Agr (is ++ js) σ σ2 :=
  ⟨b.1.trans a.1, fun j n => by
    rw [List.mem_append, not_or] at n
    rw [b.2 j n.2, a.2 j n.1]⟩
abbrev Fg := Dt → DEnv → Option DEnv
def EG (F : Act) (g : TG) (fg : Fg) (is : List Nat) : Prop := ∀ (σ : L2.St) (H B : Hp) (env : DEnv) (v : V) (d : Dt) (env' : DEnv), SD F σ H B env → Rp F.K B v d → fg d env = some env' →
  ∀ Q : L2.St → Hp → Prop, (∀ σ' : L2.St, Agr is σ σ' → (∀ a, OA σ' env' a → OA σ env a) → SD F σ' H B env' → Q σ' H) → g v σ H Q
def gN (i : Nat) : Fg := fun d env => setE env i (.sh d)
theorem eg_name {i : Nat} : EG F (gName i) (gN i) [i] := by
  intro σ H B env v d env' S r e Q q
  obtain ⟨hi, rfl⟩ := setE_ok e
  refine q _ ⟨by rw [List.length_set], fun j n => ?_⟩ (fun a ⟨k, ds, q1, q2⟩ => ?_) (S.put (Hs := H) i hi S.oa_ne S.h0 (o := .sh d) r)
  · rw [List.getElem?_set_ne]
    exact fun z => n (by rw [z]; exact List.mem_cons_self)
  · by_cases z : k = i
    · rw [z, List.getElem?_set_self hi] at q1
      cases q1
    · rw [List.getElem?_set_ne (fun w => z w.symm)] at q1 q2
      exact ⟨k, ds, q1, q2⟩
abbrev Fgs := List Dt → DEnv → Option DEnv
def EGs (F : Act) (g : TGs) (fg : Fgs) (is : List Nat) : Prop := ∀ (σ : L2.St) (H B : Hp) (env : DEnv) (vs : List V) (ds : List Dt) (env' : DEnv), SD F σ H B env → Rps F.K B vs ds → fg ds env = some env' →
  ∀ Q : L2.St → Hp → Prop, (∀ σ' : L2.St, Agr is σ σ' → (∀ a, OA σ' env' a → OA σ env a) → SD F σ' H B env' → Q σ' H) → g vs σ H Q
def gsNil : Fgs := fun ds env => match ds with
  | [] => some env
  | _ => none
def gsCons (g : Fg) (k : Fgs) : Fgs := fun ds env => match ds with
  | d :: r => match g d env with
    | some e => k r e
    | none => none
  | [] => none
theorem egs_nil : EGs F gNil gsNil [] := by
  intro σ H B env vs ds env' S r e Q q
  unfold gsNil at e
  split at e
  · simp only [Option.some.injEq] at e
    subst e
    cases r
    exact ⟨rfl, q σ ⟨rfl, fun _ _ => rfl⟩ (fun _ z => z) S⟩
  · cases e
theorem egs_cons {g : TG} {gs' : TGs} {fg : Fg} {k : Fgs} {is js : List Nat} (h : EG F g fg is) (hk : EGs F gs' k js) : EGs F (gCons g gs') (gsCons fg k) (is ++ js) := by
  intro σ H B env vs ds env' S r e Q q
  unfold gsCons at e
  split at e
  · rename_i d dr
    cases h1 : fg d env with
    | none => rw [h1] at e; cases e
    | some e1 =>
      rw [h1] at e
      cases r with
      | cons r1 r2 =>
        refine ⟨_, _, rfl, h σ H B env _ d e1 S r1 h1 _ fun σ1 a1 o1 S1 => ?_⟩
        exact hk σ1 H B e1 _ dr env' S1 r2 e Q fun σ2 a2 o2 S2 => q σ2 (a1.trans a2) (fun a z => o1 a (o2 a z)) S2
  · cases e
def gT (n : Nat) (k : Fgs) : Fg := fun d env => match d with
  | .tup ds => if Nat.beq ds.length n then k ds env else none
  | _ => none
theorem eg_tup {n : Nat} {g : TGs} {k : Fgs} {is : List Nat} (h : EGs F g k is) : EG F (gTup F.K n g) (gT n k) is := by
  intro σ H B env v d env' S r e Q q
  unfold gT at e
  split at e
  · split at e
    · rename_i hn
      cases r with
      | tup h1 r1 => exact ⟨_, _, rfl, S.gr.sqT h1, by rw [r1.length]; exact Nat.eq_of_beq_eq_true hn, h σ H B env _ _ env' S r1 e Q q⟩
    · cases e
  · cases e
/-- a, b = e -/
def sUnp (f : Fe) (g : Fg) : Fs := fun env => match pur f env with
  | none => none
  | some (d, e) => match g d e with
    | some e' => some (.nx e')
    | none => none
theorem es_unp {g : TG} {fg : Fg} {is : List Nat} (h : ED F te f) (k : EG F g fg is) : ES F (tAsg te g) (sUnp f fg) := by
  intro σ H B env o S e D P
  unfold sUnp at e
  cases h1 : DL.pur f env with
  | none => rw [h1] at e; cases e
  | some p =>
    obtain ⟨d, e1⟩ := p
    rw [h1] at e
    dsimp only at e
    cases h2 : fg d e1 with
    | none => rw [h2] at e; cases e
    | some e2 =>
      rw [h2] at e
      simp only [Option.some.injEq] at e
      subst e
      exact h.pur σ H B env d e1 S h1 _ fun v H1 B1 L1 r1 => k σ H1 B1 e1 v d e2 L1.sd r1 h2 _ fun σ' _ _ S' => P σ' H1 B1 L1.stp.bb S'
/-- a, b = x, y by swapped stores -/
def isSh : Ow → Bool
  | .sh _ => true
  | .lst _ => false
theorem isSh_ok {o : Ow} (h : isSh o = true) : ∃ d, o = .sh d := by
  cases o with
  | sh d => exact ⟨d, rfl⟩
  | lst ds => cases h
def sPar (i j : Nat) (fa : Fa) : Fs := fun env => match fa env with
  | some ([o, p], e) => match setE e i o with
    | none => none
    | some e1 => match setE e1 j p with
      | some e2 => if Nat.beq i j then none else if isSh o || isSh p then some (.nx e2) else none
      | none => none
  | _ => none
theorem es_par {i j : Nat} {ta : TA} {fa : Fa} (h : EA F ta fa) : ES F (tPar i j ta) (sPar i j fa) := by
  intro σ H B env o S e D P
  unfold sPar at e
  split at e
  · rename_i a b e0 h1
    cases h2 : setE e0 i a with
    | none => rw [h2] at e; cases e
    | some e1 =>
      rw [h2] at e
      dsimp only at e
      cases h3 : setE e1 j b with
      | none => rw [h3] at e; cases e
      | some e2 =>
        rw [h3] at e
        dsimp only at e
        split at e
        · cases e
        · rename_i hij
          split at e
          rotate_left
          · cases e
          rename_i hsh
          have hd : (∃ d, a = .sh d) ∨ ∃ d, b = .sh d := by
            rw [Bool.or_eq_true] at hsh
            exact hsh.imp isSh_ok isSh_ok
          simp only [Option.some.injEq] at e
          subst e
          obtain ⟨hi, rfl⟩ := setE_ok h2
          obtain ⟨hj, rfl⟩ := setE_ok h3
          refine h σ H B env _ e0 S h1 _ fun vs H1 B1 L1 ws => ?_
          cases ws with
          | cons w1 t1 =>
            cases t1 with
            | cons w2 t2 =>
              cases t2
              rename_i v w
              refine ⟨v, w, rfl, ?_⟩
              have nij : i ≠ j := fun z => hij (by rw [z]; exact Nat.beq_refl j)
              have S1 := L1.sd.put i hi (fun a z => S.oa_ne a (L1.oa a z)) S.h0 w1
              rcases hd with ⟨d, rfl⟩ | ⟨d, rfl⟩
              · refine P _ _ B1 L1.stp.bb (S1.put j hj (fun a ⟨k, ds, q1, q2⟩ => ?_) S.h0 w2)
                by_cases z : k = i
                · rw [z, List.getElem?_set_self hi] at q1
                  cases q1
                · rw [List.getElem?_set_ne (fun w => z w.symm)] at q1 q2
                  exact S.oa_ne a (L1.oa a ⟨k, ds, q1, q2⟩)
              · exact P _ _ B1 L1.stp.bb (S1.put (Hs := H1) j hj S1.oa_ne L1.sd.h0 (o := .sh d) w2)
  · cases e
end
end DL
set_option Elab.async false
set_option linter.all false
set_option maxRecDepth 100000
/-! DL7: loops, comprehensions, the promise of a def -/
namespace DL
open PySem PySem.Spec PyProof.Rows L2
section
variable {F : Act} {te : TE} {tt : TT} {ts tu : TS} {f : Fe} {c : Ft} {fs gs : Fs}
/-- while c: body, so many turns at most -/
def whF (c : Ft) (fs : Fs) : Nat → Fs
  | 0, _ => none
  | n + 1, env => match c env with
    | none => none
    | some (b, e) => if b then match fs e with
        | some (.nx e') => whF c fs n e'
        | some (.ct e') => whF c fs n e'
        | some (.bk e') => some (.nx e')
        | some (.rt d e') => some (.rt d e')
        | none => none
      else some (.nx e)
theorem es_while {n : Nat} (hc : EB F tt c) (hs : ES F ts fs) : ES F (tWhile tt ts) (whF c fs n) := by
  intro σ H B env o S e D P
  refine ⟨fun m σ1 H1 => ∃ B1 env1, Gr B B1 ∧ SD F σ1 H1 B1 env1 ∧ whF c fs m env1 = some o, ⟨n, B, env, Gr.refl, S, e⟩, fun m σ1 H1 hW => ?_⟩
  obtain ⟨B1, env1, g1, S1, e1⟩ := hW
  cases m with
  | zero => cases e1
  | succ m =>
    simp only [whF] at e1
    cases h1 : c env1 with
    | none => rw [h1] at e1; cases e1
    | some p =>
      obtain ⟨b, e2⟩ := p
      rw [h1] at e1
      dsimp only at e1
      refine hc σ1 H1 B1 env1 b e2 S1 h1 _ fun H2 B2 L2 => ?_
      have g2 := g1.trans L2.stp.bb
      cases b with
      | false =>
        simp only [Bool.false_eq_true, if_false, Option.some.injEq] at e1 ⊢
        subst e1
        exact P σ1 H2 B2 g2 L2.sd
      | true =>
        simp only [if_true] at e1 ⊢
        refine ⟨fun σ3 H3 => ∃ B3 env3, Gr B B3 ∧ SD F σ3 H3 B3 env3 ∧ whF c fs m env3 = some o, fun σ3 H3 h3 => ⟨m, Nat.lt_succ_self m, h3⟩, ?_⟩
        cases h2 : fs e2 with
        | none => rw [h2] at e1; cases e1
        | some o2 =>
          rw [h2] at e1
          refine hs σ1 H2 B2 e2 o2 L2.sd h2 _ ?_
          cases o2 with
          | nx e3 => exact fun σ' H' B' g S' => ⟨B', e3, g2.trans g, S', e1⟩
          | ct e3 => exact fun σ' H' B' g S' => ⟨B', e3, g2.trans g, S', e1⟩
          | bk e3 =>
            simp only [Option.some.injEq] at e1
            subst e1
            exact fun σ' H' B' g S' => P σ' H' B' (g2.trans g) S'
          | rt d e3 =>
            simp only [Option.some.injEq] at e1
            subst e1
            exact fun v σ' H' B' g S' r => P v σ' H' B' (g2.trans g) S' r
/-! ### what a for walks -/
/-- J gives the data of ds, one after another -/
def ItOk (F : Act) (J : It) (B : Hp) (ds : List Dt) : Prop := ∃ (G : Hp → Prop) (Y : Nat → Hp → V → Hp → Prop), Walk J ds.length G Y ∧ (∀ B2 H2 : Hp, Gr B B2 → Gr B2 H2 → G H2) ∧
  ∀ (i : Nat) (d : Dt) (B2 H2 : Hp) (x : V) (H3 : Hp), ds[i]? = some d → Gr B B2 → Gr B2 H2 → Y i H2 x H3 → ∃ B3, Stp (fun _ => False) B2 H2 B3 H3 ∧ Gr B3 H3 ∧ Rp F.K B3 x d
def EI (F : Act) (wi : TI) (fi : Fq) : Prop := ∀ (σ : L2.St) (H B : Hp) (env : DEnv) (ds : List Dt) (env' : DEnv), SD F σ H B env → fi env = some (ds, env') →
  ∀ R : It → Hp → Prop, (∀ (J : It) (H' B' : Hp), Lft F σ H B env H' B' env' → ItOk F J B' ds → R J H') → wi σ H R
/-- a list, a tuple, a text -/
def iL (f : Fe) : Fq := fun env => match pur f env with
  | some (.lst ds, e) => some (ds, e)
  | _ => none
def iT (f : Fe) : Fq := fun env => match pur f env with
  | some (.tup ds, e) => some (ds, e)
  | _ => none
def iS (f : Fe) : Fq := fun env => match pur f env with
  | some (.str s, e) => some (s.map fun c => .str [c], e)
  | _ => none
theorem ei_list (h : ED F te f) : EI F (iList F.K te) (iL f) := by
  intro σ H B env ds env' S e R q
  unfold iL at e
  split at e
  · rename_i ds' e1 h1
    simp only [Option.some.injEq, Prod.mk.injEq] at e
    obtain ⟨rfl, rfl⟩ := e
    refine h.pur σ H B env _ e1 S h1 _ fun v H1 B1 L1 r1 => ?_
    cases r1 with
    | lst k1 k2 =>
      rename_i a xs
      refine ⟨a, rfl, ⟨xs, L1.sd.gr.sqL k1⟩, q _ H1 B1 L1 ⟨_, _, by rw [← k2.length]; exact walk_list (K := F.K) (a := a) (xs := xs), fun B2 H2 g1 g2 => g2.sqL (g1.sqL k1), fun i d B2 H2 x H3 hd g1 g2 hy => ?_⟩⟩
      obtain ⟨rfl, hx⟩ := hy
      obtain ⟨v, m1, m2⟩ := k2.get hd
      rw [hx] at m1
      cases m1
      exact ⟨B2, Stp.refl, g2, m2.up g1⟩
  · cases e
theorem ei_tup (h : ED F te f) : EI F (iTup F.K te) (iT f) := by
  intro σ H B env ds env' S e R q
  unfold iT at e
  split at e
  · rename_i ds' e1 h1
    simp only [Option.some.injEq, Prod.mk.injEq] at e
    obtain ⟨rfl, rfl⟩ := e
    refine h.pur σ H B env _ e1 S h1 _ fun v H1 B1 L1 r1 => ?_
    cases r1 with
    | tup k1 k2 =>
      rename_i a xs
      refine ⟨a, rfl, ⟨xs, L1.sd.gr.sqT k1⟩, q _ H1 B1 L1 ⟨_, _, by rw [← k2.length]; exact walk_tup (K := F.K) (a := a) (xs := xs), fun B2 H2 g1 g2 => g2.sqT (g1.sqT k1), fun i d B2 H2 x H3 hd g1 g2 hy => ?_⟩⟩
      obtain ⟨rfl, hx⟩ := hy
      obtain ⟨v, m1, m2⟩ := k2.get hd
      rw [hx] at m1
      cases m1
      exact ⟨B2, Stp.refl, g2, m2.up g1⟩
  · cases e
theorem ei_str (h : ED F te f) : EI F (iStr te) (iS f) := by
  intro σ H B env ds env' S e R q
  unfold iS at e
  split at e
  · rename_i s e1 h1
    simp only [Option.some.injEq, Prod.mk.injEq] at e
    obtain ⟨rfl, rfl⟩ := e
    refine h.pur σ H B env _ e1 S h1 _ fun v H1 B1 L1 r1 => ?_
    cases r1
    have hw := walk_str (z := ⟨s.toArray⟩)
    refine ⟨_, rfl, q _ H1 B1 L1 ⟨_, _, by rw [List.length_map]; exact (by simpa using hw), fun B2 H2 _ _ => trivial, fun i d B2 H2 x H3 hd g1 g2 hy => ?_⟩⟩
    obtain ⟨rfl, c, hc, rfl⟩ := hy
    rw [List.getElem?_map] at hd
    have hc2 : s[i]? = some c := by simpa using hc
    rw [hc2] at hd
    simp only [Option.map_some, Option.some.injEq] at hd
    subst hd
    exact ⟨B2, Stp.refl, g2, Rp.str [c]⟩
  · cases e
/-- range(n), range(a, b) -/
def rngD (lo : Int) (n : Nat) : List Dt := (List.range n).map fun i => .int (lo + (i : Nat))
def iR1 (fq : Fq) : Fq := fun env => match fq env with
  | some ([.int j], e) => if ibd 1000000000 j then some (rngD 0 j.toNat, e) else none
  | _ => none
def iR2 (fq : Fq) : Fq := fun env => match fq env with
  | some ([.int i, .int j], e) => if ibd 1000000000 i && ibd 1000000000 j then some (rngD i (j - i).toNat, e) else none
  | _ => none
theorem itok_range {B : Hp} {lo : Int} {n : Nat} : ItOk F (Itr lo n) B (rngD lo n) := by
  refine ⟨_, _, by rw [show (rngD lo n).length = n by simp [rngD]]; exact walk_range, fun _ _ _ _ => trivial, fun i d B2 H2 x H3 hd g1 g2 hy => ?_⟩
  obtain ⟨rfl, rfl⟩ := hy
  have hn : i < n := by
    have := (List.getElem?_eq_some_iff.mp hd).1
    simpa [rngD] using this
  have e : (rngD lo n)[i]? = some (.int (lo + (i : Nat))) := by simp [rngD, hn]
  rw [hd] at e
  simp only [Option.some.injEq] at e
  subst e
  exact ⟨B2, Stp.refl, g2, Rp.int _⟩
theorem ei_r1 {ta : TA} {fq : Fq} (h : EQ F ta fq) : EI F (iRng1 ta) (iR1 fq) := by
  intro σ H B env ds env' S e R q
  unfold iR1 at e
  split at e
  · rename_i j e1 h1
    split at e
    · rename_i hj
      have hj := ibd_ok hj
      simp only [Option.some.injEq, Prod.mk.injEq] at e
      obtain ⟨rfl, rfl⟩ := e
      refine h σ H B env _ e1 S h1 _ fun vs H1 B1 L1 r1 => ?_
      obtain ⟨v, rfl, rv⟩ := rps1 r1
      cases rv
      exact ⟨j, rfl, by omega, by omega, q _ H1 B1 L1 itok_range⟩
    · cases e
  · cases e
theorem ei_r2 {ta : TA} {fq : Fq} (h : EQ F ta fq) : EI F (iRng2 ta) (iR2 fq) := by
  intro σ H B env ds env' S e R q
  unfold iR2 at e
  split at e
  · rename_i i j e1 h1
    split at e
    · rename_i hj
      rw [Bool.and_eq_true] at hj
      have hi1 := ibd_ok hj.1
      have hj := ibd_ok hj.2
      simp only [Option.some.injEq, Prod.mk.injEq] at e
      obtain ⟨rfl, rfl⟩ := e
      refine h σ H B env _ e1 S h1 _ fun vs H1 B1 L1 r1 => ?_
      obtain ⟨v, w, rfl, rv, rw'⟩ := rps2 r1
      cases rv; cases rw'
      exact ⟨i, j, rfl, ⟨by omega, by omega, by omega, by omega⟩, q _ H1 B1 L1 itok_range⟩
    · cases e
  · cases e
/-! ### for -/
def forF (fg : Fg) (fs : Fs) : List Dt → Fs
  | [], env => some (.nx env)
  | d :: ds, env => match fg d env with
    | none => none
    | some e => match fs e with
      | some (.nx e') => forF fg fs ds e'
      | some (.ct e') => forF fg fs ds e'
      | some (.bk e') => some (.nx e')
      | some (.rt d' e') => some (.rt d' e')
      | none => none
def sFor (fi : Fq) (fg : Fg) (fs : Fs) : Fs := fun env => match fi env with
  | some (ds, e) => forF fg fs ds e
  | none => none
theorem es_for {wi : TI} {g : TG} {fi : Fq} {fg : Fg} {is : List Nat} (hi : EI F wi fi) (hg : EG F g fg is) (hs : ES F ts fs) : ES F (tFor wi g ts) (sFor fi fg fs) := by
  intro σ H B env o S e D P
  unfold sFor at e
  cases h1 : fi env with
  | none => rw [h1] at e; cases e
  | some p =>
    obtain ⟨ds, e0⟩ := p
    rw [h1] at e
    dsimp only at e
    refine hi σ H B env ds e0 S h1 _ fun J H0 B0 L0 hJ => ?_
    obtain ⟨G, Y, hw, hG, hY⟩ := hJ
    refine for_it hw (fun i σ1 H1 => ∃ B1 env1, Gr B0 B1 ∧ SD F σ1 H1 B1 env1 ∧ ((∃ o1, forF fg fs (ds.drop i) env1 = some o1 ∧ o1 = o) ∨ False)) ⟨B0, e0, Gr.refl, L0.sd, .inl ⟨o, e, rfl⟩⟩ (fun i σ1 H1 hi ⟨B1, env1, g1, S1, _⟩ => hG B1 H1 g1 S1.gr) (fun i x σ1 H1 H2 hi ⟨B1, env1, g1, S1, hf⟩ hy => ?_) (fun σ1 H1 ⟨B1, env1, g1, S1, hf⟩ => ?_)
    · rcases hf with ⟨o1, hf, rfl⟩ | z
      rotate_left
      · exact z.elim
      have hd : ds[i]? = some ds[i] := List.getElem?_eq_getElem hi
      rw [List.drop_eq_getElem_cons hi] at hf
      simp only [forF] at hf
      cases h2 : fg ds[i] env1 with
      | none => rw [h2] at hf; cases hf
      | some e2 =>
        rw [h2] at hf
        dsimp only at hf
        obtain ⟨B2, t2, g2, r2⟩ := hY i _ B1 H1 x H2 hd g1 S1.gr hy
        refine hg σ1 H2 B2 env1 x _ e2 (S1.step t2 g2) r2 h2 _ fun σ2 _ _ S2 => ?_
        have g12 := g1.trans t2.bb
        cases h3 : fs e2 with
        | none => rw [h3] at hf; cases hf
        | some o3 =>
          rw [h3] at hf
          refine hs σ2 H2 B2 e2 o3 S2 h3 _ ?_
          cases o3 with
          | nx e4 => exact fun σ' H' B' g S' => ⟨B', e4, g12.trans g, S', .inl ⟨o1, hf, rfl⟩⟩
          | ct e4 => exact fun σ' H' B' g S' => ⟨B', e4, g12.trans g, S', .inl ⟨o1, hf, rfl⟩⟩
          | bk e4 =>
            simp only [Option.some.injEq] at hf
            subst hf
            exact fun σ' H' B' g S' => P σ' H' B' (L0.stp.bb.trans (g12.trans g)) S'
          | rt d e4 =>
            simp only [Option.some.injEq] at hf
            subst hf
            exact fun v σ' H' B' g S' r => P v σ' H' B' (L0.stp.bb.trans (g12.trans g)) S' r
    · rcases hf with ⟨o1, hf, rfl⟩ | z
      rotate_left
      · exact z.elim
      rw [List.drop_length] at hf
      simp only [forF, Option.some.injEq] at hf
      subst hf
      exact P σ1 H1 B1 (L0.stp.bb.trans g1) S1
/-! ### comprehensions -/
def wipeE (env : DEnv) : List Nat → DEnv
  | [] => env
  | v :: vs => (wipeE env vs).set v none
theorem wipeE_length (env : DEnv) : ∀ vs : List Nat, (wipeE env vs).length = env.length
  | [] => rfl
  | v :: vs => by
    simp only [wipeE, List.length_set]
    exact wipeE_length env vs
theorem wipeE_some {env : DEnv} {i : Nat} {o : Ow} : ∀ {vs : List Nat}, (wipeE env vs)[i]? = some (some o) → env[i]? = some (some o) ∧ i ∉ vs
  | [], h => ⟨h, by simp⟩
  | v :: vs, h => by
    simp only [wipeE] at h
    by_cases z : i = v
    · subst z
      by_cases q : i < (wipeE env vs).length
      · rw [List.getElem?_set_self q] at h
        cases h
      · rw [List.getElem?_eq_none (by rw [List.length_set]; omega)] at h
        cases h
    · rw [List.getElem?_set_ne (fun w => z w.symm)] at h
      obtain ⟨h1, h2⟩ := wipeE_some h
      exact ⟨h1, by simp [z, h2]⟩
theorem wipe_get {σ : L2.St} {i : Nat} : ∀ {vs : List Nat}, i ∉ vs → (wipe σ vs)[i]? = σ[i]?
  | [], _ => rfl
  | v :: vs, h => by
    have h1 : i ≠ v := fun z => h (by rw [z]; exact List.mem_cons_self)
    have h2 : i ∉ vs := fun z => h (List.mem_cons_of_mem _ z)
    unfold wipe
    rw [List.getElem?_set_ne (fun w => h1 w.symm)]
    exact wipe_get h2
theorem SD.wiped {σ : L2.St} {H B : Hp} {env : DEnv} (S : SD F σ H B env) (vs : List Nat) : SD F (wipe σ vs) H B (wipeE env vs) := by
  refine ⟨by rw [wipe_length, wipeE_length]; exact S.len, S.ent, S.gr, fun i d e => ?_, fun i ds e => ?_, fun i j ds es l e1 e2 e3 e4 => ?_⟩
  · obtain ⟨h1, h2⟩ := wipeE_some e
    rw [wipe_get h2]
    exact S.slot i d h1
  · obtain ⟨h1, h2⟩ := wipeE_some e
    rw [wipe_get h2]
    exact S.own i ds h1
  · obtain ⟨h1, h2⟩ := wipeE_some e1
    obtain ⟨h3, h4⟩ := wipeE_some e2
    rw [wipe_get h2] at e3
    rw [wipe_get h4] at e4
    exact S.dist i j ds es l h1 h3 e3 e4
theorem wipe_agr {vs is : List Nat} {σ σ' : L2.St} (a : Agr is σ σ') (h : ∀ j ∈ is, j ∈ vs) : wipe σ' vs = wipe σ vs := by
  have key : ∀ (ws : List Nat) (j : Nat), (wipe σ' ws)[j]? = (wipe σ ws)[j]? ∨ (j ∉ ws ∧ (wipe σ' ws)[j]? = σ'[j]? ∧ (wipe σ ws)[j]? = σ[j]?) := by
    intro ws j
    by_cases hj : j ∈ ws
    · left
      induction ws with
      | nil => cases hj
      | cons w ws ih =>
        simp only [wipe]
        by_cases z : j = w
        · subst z
          by_cases q : j < σ.length
          · rw [List.getElem?_set_self (by rw [wipe_length, a.1]; exact q), List.getElem?_set_self (by rw [wipe_length]; exact q)]
          · rw [List.getElem?_eq_none (by rw [List.length_set, wipe_length, a.1]; omega), List.getElem?_eq_none (by rw [List.length_set, wipe_length]; omega)]
        · rw [List.getElem?_set_ne (fun k => z k.symm), List.getElem?_set_ne (fun k => z k.symm)]
          exact ih (by rcases List.mem_cons.mp hj with k | k; exact absurd k z; exact k)
    · exact .inr ⟨hj, wipe_get hj, wipe_get hj⟩
  apply List.ext_getElem?
  intro j
  rcases key vs j with k | ⟨n, k1, k2⟩
  · exact k
  · rw [k1, k2]
    exact a.2 j fun z => n (h j z)
/-- what the comprehension's own names stood for comes back -/
def rstE (env0 : DEnv) (envw : DEnv) : List Nat → Option DEnv
  | [] => some envw
  | v :: vs => match rstE env0 envw vs with
    | none => none
    | some e => match env0[v]? with
      | some (some (.lst _)) => none
      | some o => some (e.set v o)
      | none => none
theorem rstE_ok {env0 envw : DEnv} : ∀ {vs : List Nat} {e : DEnv}, rstE env0 envw vs = some e → e.length = envw.length ∧ (∀ v ∈ vs, ∀ ds, env0[v]? ≠ some (some (.lst ds))) ∧
    ∀ (j : Nat) (o : Ow), e[j]? = some (some o) → (j ∈ vs ∧ env0[j]? = some (some o)) ∨ (j ∉ vs ∧ envw[j]? = some (some o))
  | [], e, h => by
    simp only [rstE, Option.some.injEq] at h
    subst h
    exact ⟨rfl, fun v hv => absurd hv (by simp), fun j o q => .inr ⟨by simp, q⟩⟩
  | v :: vs, e, h => by
    simp only [rstE] at h
    cases h1 : rstE env0 envw vs with
    | none => rw [h1] at h; cases h
    | some e1 =>
      rw [h1] at h
      obtain ⟨k1, k2, k3⟩ := rstE_ok h1
      dsimp only at h
      split at h
      · cases h
      · rename_i o hno ho
        simp only [Option.some.injEq] at h
        subst h
        refine ⟨by rw [List.length_set]; exact k1, fun w hw ds q => ?_, fun j p q => ?_⟩
        · rcases List.mem_cons.mp hw with z | z
          · rw [z, ho] at q
            simp only [Option.some.injEq] at q
            exact hno ds q
          · exact k2 w z ds q
        · by_cases z : j = v
          · subst z
            by_cases q2 : j < e1.length
            · rw [List.getElem?_set_self q2] at q
              simp only [Option.some.injEq] at q
              exact .inl ⟨List.mem_cons_self, by rw [ho, q]⟩
            · rw [List.getElem?_eq_none (by rw [List.length_set]; omega)] at q
              cases q
          · rw [List.getElem?_set_ne (fun w => z w.symm)] at q
            rcases k3 j p q with ⟨m1, m2⟩ | ⟨m1, m2⟩
            · exact .inl ⟨List.mem_cons_of_mem _ m1, m2⟩
            · exact .inr ⟨by simp [z, m1], m2⟩
      · cases h
theorem SD.rst {σ : L2.St} {H B H' B' : Hp} {env0 envw e : DEnv} {vs : List Nat} (S : SD F σ H B env0) (W : SD F (wipe σ vs) H' B' envw) (g : Gr B B') (h : rstE env0 envw vs = some e) : SD F σ H' B' e := by
  obtain ⟨k1, k2, k3⟩ := rstE_ok h
  have own : ∀ (j : Nat) (ds : List Dt), e[j]? = some (some (.lst ds)) → j ∉ vs ∧ envw[j]? = some (some (.lst ds)) := fun j ds q => by
    rcases k3 j _ q with ⟨m1, m2⟩ | m
    · exact absurd m2 (k2 j m1 ds)
    · exact m
  refine ⟨by rw [k1, ← W.len, wipe_length], W.ent, W.gr, fun i d q => ?_, fun i ds q => ?_, fun i j ds es l e1 e2 e3 e4 => ?_⟩
  · rcases k3 i _ q with ⟨m1, m2⟩ | ⟨m1, m2⟩
    · obtain ⟨v, h1, h2⟩ := S.slot i d m2
      exact ⟨v, h1, h2.up g⟩
    · rw [← wipe_get m1]
      exact W.slot i d m2
  · obtain ⟨m1, m2⟩ := own i ds q
    rw [← wipe_get m1]
    exact W.own i ds m2
  · obtain ⟨m1, m2⟩ := own i ds e1
    obtain ⟨n1, n2⟩ := own j es e2
    rw [← wipe_get m1] at e3
    rw [← wipe_get n1] at e4
    exact W.dist i j ds es l m2 n2 e3 e4
/-- a cell that no slot has is changed -/
theorem SD.garb {σ : L2.St} {H B : Hp} {env : DEnv} {p : Addr} {vs ws : List V} (S : SD F σ H B env) (hb : B p = none) (hn : ¬ OA σ env p) (h0 : F.H0 p = none) (hp : H p = some (.lst vs)) :
    SD F σ (upd H p (.lst ws)) B env ∧ Stp (fun a => a = p) B H B (upd H p (.lst ws)) := by
  have stp : Stp (fun a => a = p) B H B (upd H p (.lst ws)) := by
    refine ⟨Gr.refl, fun _ q _ _ => q, fun a u q _ n => by rw [upd_ne n]; exact q, fun a q => ?_, fun x ⟨ps, q, k⟩ => ⟨ps, ?_, k⟩, fun _ _ q => q⟩
    · unfold upd
      split
      · exact fun z => by cases z
      · exact q
    · rw [upd_ne (fun z => by rw [z, hp] at q; cases q)]
      exact q
  refine ⟨⟨S.len, S.ent.trans stp fun a z => .inr (by rw [z]; exact h0), fun a u q => ?_, S.slot, fun i ds q => ?_, S.dist⟩, stp⟩
  · rw [upd_ne (fun z => by rw [z, hb] at q; cases q)]
    exact S.gr a u q
  · obtain ⟨l, xs, k1, k2, k3, k4, k5⟩ := S.own i ds q
    exact ⟨l, xs, k1, k2, k3, by rw [upd_ne (fun z => hn ⟨i, ds, q, by rw [← z]; exact k1⟩)]; exact k4, k5⟩
/-- the turns of a comprehension -/
def lcF (fg : Fg) (ft : Ft) (fe : Fe) (vs : List Nat) : List Dt → DEnv → Option (List Dt × DEnv)
  | [], env => some ([], env)
  | d :: ds, env => match fg d env with
    | none => none
    | some e1 => match ft e1 with
      | none => none
      | some (b, e2) => if b then match pur fe e2 with
          | none => none
          | some (y, e3) => match lcF fg ft fe vs ds (wipeE e3 vs) with
            | none => none
            | some (ys, e4) => some (y :: ys, e4)
        else lcF fg ft fe vs ds (wipeE e2 vs)
def fLc (fi : Fq) (fg : Fg) (ft : Ft) (fe : Fe) (vs : List Nat) : Fe := fun env => match fi env with
  | none => none
  | some (ds, e0) => if Nat.ble ds.length 16777216 then match lcF fg ft fe vs ds (wipeE e0 vs) with
      | none => none
      | some (ys, e1) => match rstE e0 e1 vs with
        | none => none
        | some e2 => some (.lst ys, e2)
    else none
theorem eb_yes : EB F tYes (fun env => some (true, env)) := by
  intro σ H B env b env' S e Q q
  simp only [Option.some.injEq, Prod.mk.injEq] at e
  obtain ⟨rfl, rfl⟩ := e
  exact q H B (Lft.refl S)
theorem ed_lc {wi : TI} {g : TG} {fi : Fq} {fg : Fg} {ft : Ft} {fe : Fe} {vs is : List Nat} (hi : EI F wi fi) (hg : EG F g fg is) (ht : EB F tt ft) (he : ED F te fe) (his : ∀ j ∈ is, j ∈ vs) : ED F (tLc wi g tt te vs) (fLc fi fg ft fe vs) := by
  intro σ H B env o env' S e Q q
  unfold fLc at e
  cases h1 : fi env with
  | none => rw [h1] at e; cases e
  | some p =>
    obtain ⟨ds, e0⟩ := p
    rw [h1] at e
    dsimp only at e
    split at e
    rotate_left
    · cases e
    rename_i hz
    have hz := Nat.le_of_ble_eq_true hz
    cases h2 : lcF fg ft fe vs ds (wipeE e0 vs) with
    | none => rw [h2] at e; cases e
    | some p2 =>
      obtain ⟨ys, e1⟩ := p2
      rw [h2] at e
      dsimp only at e
      cases h3 : rstE e0 e1 vs with
      | none => rw [h3] at e; cases e
      | some e2 =>
        rw [h3] at e
        simp only [Option.some.injEq, Prod.mk.injEq] at e
        obtain ⟨rfl, rfl⟩ := e
        refine hi σ H B env ds e0 S h1 _ fun J H0 B0 L0 hJ => ?_
        obtain ⟨G, Y, hw, hG, hY⟩ := hJ
        intro D hD
        have hDH : H D = none := by
          cases z : H D with
          | none => rfl
          | some u => exact absurd hD (L0.stp.th D (by rw [z]; exact fun y => by cases y))
        have D0 : F.H0 D = none := (S.fresh hDH).1
        have nD : ∀ a, OA σ e0 a → a ≠ D := fun a z w => L0.sd.oa_ne a z (by rw [w]; exact hD)
        refine lc_it hw (fun i Ht => ∃ (Bt : Hp) (et : DEnv) (acc : List Dt) (vacc : List V) (rest : List Dt), SD F (wipe σ vs) Ht Bt et ∧ Gr B0 Bt ∧ Stp (fun a => OA σ e0 a ∨ a = D) B0 H0 Bt Ht ∧ (∀ a, OA (wipe σ vs) et a → OA σ e0 a) ∧
          Ht D = some (.lst vacc) ∧ Bt D = none ∧ Rps F.K Bt vacc acc ∧ acc.length ≤ i ∧ lcF fg ft fe vs (ds.drop i) et = some (rest, e1) ∧ ys = acc ++ rest) ?_ ?_ ?_ ?_
        · have t := stp_new (B := B0) (o := .lst []) hD
          have W := (L0.sd.wiped vs).step (t.mono fun _ z => z) (gr_new L0.sd.gr hD)
          refine ⟨B0, wipeE e0 vs, [], [], ys, W, Gr.refl, t.mono fun _ z => z.elim, fun a z => ?_, upd_same, (L0.sd.fresh hD).2.1, .nil, Nat.zero_le _, h2, rfl⟩
          obtain ⟨i, es, q1, q2⟩ := z
          obtain ⟨q3, q4⟩ := wipeE_some q1
          rw [wipe_get q4] at q2
          exact ⟨i, es, q3, q2⟩
        · intro i Ht _ ⟨Bt, et, acc, vacc, rest, W, g0, _⟩
          exact hG Bt Ht g0 W.gr
        · intro i x Ht H2 hi2 ⟨Bt, et, acc, vacc, rest, W, g0, st, oa, hDt, bD, ra, hal, hl, hys⟩ hy
          have hd : ds[i]? = some ds[i] := List.getElem?_eq_getElem hi2
          rw [List.drop_eq_getElem_cons hi2] at hl
          simp only [lcF] at hl
          cases k1 : fg ds[i] et with
          | none => rw [k1] at hl; cases hl
          | some f1 =>
            rw [k1] at hl
            dsimp only at hl
            obtain ⟨B2, t2, g2, r2⟩ := hY i _ Bt Ht x H2 hd g0 W.gr hy
            refine hg _ H2 B2 et x _ f1 (W.step t2 g2) r2 k1 _ fun σ2 ag og S2 => ⟨?_, ?_⟩
            · have hww : wipe (wipe σ vs) vs = wipe σ vs := by
                have ag0 : Agr vs (wipe σ vs) σ := ⟨(wipe_length σ vs).symm, fun j n => (wipe_get n).symm⟩
                exact (wipe_agr ag0 fun j z => z).symm
              rw [wipe_agr ag his, hww]
            have hww2 : wipe σ2 vs = wipe σ vs := by
              have ag0 : Agr vs (wipe σ vs) σ := ⟨(wipe_length σ vs).symm, fun j n => (wipe_get n).symm⟩
              rw [wipe_agr ag his]
              exact (wipe_agr ag0 fun j z => z).symm
            -- the list's cell is nobody's
            have oa2 : ∀ a, OA σ2 f1 a → OA σ e0 a := fun a z => oa a (og a z)
            have nt : ∀ ps, HO.lst vacc ≠ .tbl ps := fun ps z => by cases z
            have d2 : H2 D = some (.lst vacc) := t2.hh D _ hDt nt fun z => z
            have b2 : B2 D = none := t2.nw D bD (by rw [hDt]; exact fun z => by cases z) fun z => z
            have back : ∀ (f : DEnv) (a : Addr), OA (wipe σ vs) (wipeE f vs) a → OA σ2 f a := fun f a ⟨j, es, q1, q2⟩ => by
              obtain ⟨q3, q4⟩ := wipeE_some q1
              refine ⟨j, es, q3, ?_⟩
              rw [← hww2, wipe_get q4] at q2
              exact q2
            cases k2 : ft f1 with
            | none => rw [k2] at hl; cases hl
            | some p3 =>
              obtain ⟨b, f2⟩ := p3
              rw [k2] at hl
              dsimp only at hl
              refine ht σ2 H2 B2 f1 b f2 S2 k2 _ fun H3 B3 L3 => ?_
              have nf1 : ¬ OA σ2 f1 D := fun z => nD D (oa2 D z) rfl
              have d3 : H3 D = some (.lst vacc) := L3.stp.hh D _ d2 nt nf1
              have b3 : B3 D = none := L3.stp.nw D b2 (by rw [d2]; exact fun z => by cases z) nf1
              have st3 : Stp (fun a => OA σ e0 a ∨ a = D) B0 H0 B3 H3 := (st.trans t2 fun _ z => z.elim).trans L3.stp fun a z => .inl (.inl (oa2 a z))
              cases b with
              | false =>
                simp only [Bool.false_eq_true, if_false] at hl ⊢
                refine ⟨B3, wipeE f2 vs, acc, vacc, rest, ?_, (g0.trans t2.bb).trans L3.stp.bb, st3, fun a z => oa2 a (L3.oa a (back f2 a z)), d3, b3, ra.up (t2.bb.trans L3.stp.bb), by omega, hl, hys⟩
                have W3 := L3.sd.wiped vs
                rw [hww2] at W3
                exact W3
              | true =>
                simp only [if_true] at hl ⊢
                cases k3 : DL.pur fe f2 with
                | none => rw [k3] at hl; cases hl
                | some p4 =>
                  obtain ⟨y, f3⟩ := p4
                  rw [k3] at hl
                  dsimp only at hl
                  cases k4 : lcF fg ft fe vs (ds.drop (i + 1)) (wipeE f3 vs) with
                  | none => rw [k4] at hl; cases hl
                  | some p5 =>
                    obtain ⟨ys2, e5⟩ := p5
                    rw [k4] at hl
                    simp only [Option.some.injEq, Prod.mk.injEq] at hl
                    obtain ⟨rfl, rfl⟩ := hl
                    refine he.pur σ2 H3 B3 f2 y f3 L3.sd k3 _ fun v H4 B4 L4 r4 => ?_
                    have nf2 : ¬ OA σ2 f2 D := fun z => nf1 (L3.oa D z)
                    have d4 : H4 D = some (.lst vacc) := L4.stp.hh D _ d3 nt nf2
                    have b4 : B4 D = none := L4.stp.nw D b3 (by rw [d3]; exact fun z => by cases z) nf2
                    have up4 := (t2.bb.trans L3.stp.bb).trans L4.stp.bb
                    have W4 := L4.sd.wiped vs
                    rw [hww2] at W4
                    have nW : ¬ OA (wipe σ vs) (wipeE f3 vs) D := fun z => nf2 (L4.oa D (back f3 D z))
                    obtain ⟨W5, t5⟩ := W4.garb (ws := vacc ++ [v]) b4 nW D0 d4
                    refine ⟨vacc, d4, ?_, B4, wipeE f3 vs, acc ++ [y], vacc ++ [v], ys2, W5, g0.trans up4, (st3.trans L4.stp fun a z => .inl (.inl (oa2 a (L3.oa a z)))).trans t5 fun a z => .inl (.inr z), fun a z => oa2 a (L3.oa a (L4.oa a (back f3 a z))), upd_same, b4, ((ra.up up4).app (.cons r4 .nil)), ?_, k4, ?_⟩
                    · rw [ra.length]
                      exact Nat.lt_of_lt_of_le (Nat.lt_of_le_of_lt hal hi2) hz
                    · rw [List.length_append]
                      exact Nat.succ_le_succ hal
                    · rw [hys, List.append_assoc]
                      rfl
        · intro Ht ⟨Bt, et, acc, vacc, rest, W, g0, st, oa, hDt, bD, ra, hal, hl, hys⟩
          rw [List.drop_length] at hl
          simp only [lcF, Option.some.injEq, Prod.mk.injEq] at hl
          obtain ⟨rfl, rfl⟩ := hl
          rw [List.append_nil] at hys
          subst hys
          have Sf := L0.sd.rst W g0 h3
          obtain ⟨c1, c2, c3⟩ := rstE_ok h3
          refine q (.ref D) Ht Bt ⟨Sf, L0.stp.trans st fun a z => ?_, fun a ⟨j, es, q1, q2⟩ => ?_⟩ ⟨D, vacc, rfl, bD, hDH, hDt, ra⟩
          · rcases z with z | z
            · exact .inl (L0.oa a z)
            · exact .inr (by rw [z]; exact hDH)
          · rcases c3 j _ q1 with ⟨m1, m2⟩ | ⟨m1, m2⟩
            · exact absurd m2 (c2 j m1 es)
            · exact L0.oa a (oa a ⟨j, es, m2, by rw [wipe_get m1]; exact q2⟩)
end
end DL
set_option Elab.async false
set_option linter.all false
set_option maxRecDepth 100000
/-! DL8: a def keeps the promise of its meaning -/
namespace DL
open PySem PySem.Spec PyProof.Rows L2
/-- what a body hands back -/
def runB (body : Fs) (env : DEnv) : Option Dt := match body env with
  | some (.rt d _) => some d
  | some (.nx _) => some .non
  | _ => none
/-- the meaning of a def: so many parameters, so many slots -/
def entE (n : Nat) (ds : List Dt) : DEnv := ds.map (fun d => some (.sh d)) ++ List.replicate (n - ds.length) none
def defF (np n : Nat) (body : Fs) : List Dt → Option Dt := fun ds => if Nat.beq ds.length np then runB body (entE n ds) else none
theorem entE_sh {n : Nat} {ds : List Dt} {i : Nat} {o : Ow} (h : (entE n ds)[i]? = some (some o)) : ∃ d, o = .sh d ∧ ds[i]? = some d := by
  unfold entE at h
  by_cases hi : i < ds.length
  · rw [List.getElem?_append_left (by simpa using hi), List.getElem?_map, List.getElem?_eq_getElem hi] at h
    simp only [Option.map_some, Option.some.injEq] at h
    exact ⟨ds[i], h.symm, List.getElem?_eq_getElem hi⟩
  · rw [List.getElem?_append_right (by simpa using Nat.le_of_not_lt hi)] at h
    have := List.mem_of_getElem? h
    rw [List.mem_replicate] at this
    cases this.2
theorem sd_start {K : PySem.W.Frag} {B H : Hp} {N : List Str} {vs : List V} {ds : List Dt} (g : Gr B H) (r : Rps K B vs ds) : SD ⟨K, B, H, fun _ => False⟩ (L2.start N vs) H B (entE N.length ds) := by
  have hl := r.length
  refine ⟨?_, Stp.refl, g, fun i d e => ?_, fun i es e => ?_, fun i j es fs l e => ?_⟩
  · unfold L2.start entE
    simp [hl]
  · obtain ⟨d', h1, h2⟩ := entE_sh e
    cases h1
    obtain ⟨v, k1, k2⟩ := r.get h2
    refine ⟨v, ?_, k2⟩
    unfold L2.start
    have hi : i < vs.length := (List.getElem?_eq_some_iff.mp k1).1
    rw [List.getElem?_append_left (by simpa using hi), List.getElem?_map, k1]
    rfl
  · obtain ⟨d', h1, _⟩ := entE_sh e
    cases h1
  · obtain ⟨d', h1, _⟩ := entE_sh e
    cases h1
section
variable {P : Program} {w : World} {K : PySem.W.Frag} {mg : Str → Option Value} {base : Heap}
/-- the rule for a def, its code object known -/
theorem fun_okC {x qual : Str} {st : Stmt} {f : Addr} {fd : FuncData} {N ps : List Str} {k : Nat} {sp : Sp} (F : Fun K x qual st f fd) (S : FnScope N ps (defScope st)) (len : ∀ vs H Q E, sp vs H Q E → vs.length = ps.length)
    (hbody : ∀ (A : Around) (outer : List Env) (s : Shared) (H : Hp) (vs : List V) (Q : VK) (E : XK), Room k (A.deeper (envOfC qual (defScope st) s.heap.objs.size f fd.code)) → sp vs H Q E →
      ∃ t, PSs (cxOf CX0 P w K mg base N qual (defScope st) f fd.code A outer s H E).nox (defBody st) t ∧ t { nx := fun _ H' => Q .non H', rt := Q } (L2.start N vs) H) : FnOk P w K mg base CX0 (k + 1) f fd ps sp := by
  obtain ⟨oc, od, kV, doc, pm, an, cdv, ct, osl, rfl, lk, hcd⟩ := F.ex
  refine fn_of lk hcd S len fun A outer s H vs Q E hr hsp => ?_
  obtain ⟨t, h, q⟩ := hbody A outer s H vs Q E hr hsp
  exact ⟨t, h.nox, q⟩
theorem fn_dl {x qual : Str} {st : Stmt} {f : Addr} {fd : FuncData} {N ps : List Str} {k : Nat} (F : Fun K x qual st f fd) (S : FnScope N ps (defScope st)) (T : List Addr) (body : Fs) {n np : Nat} (hn : N.length = n) (hnp : ps.length = np)
    (hb : ∀ (A : Around) (outer : List Env) (s : Shared) (H : Hp) (E : XK) (B : Hp), Room k (A.deeper (envOfC qual (defScope st) s.heap.objs.size f fd.code)) → Ent ⟨K, B, H, fun _ => False⟩ T →
      ∃ ts, PSs (cxOf CX0 P w K mg base N qual (defScope st) f fd.code A outer s H E).nox (defBody st) ts ∧ ES ⟨K, B, H, fun _ => False⟩ ts body) :
    FnOk P w K mg base CX0 (k + 1) f fd ps (spD K T (defF np n body)) := by
  have lenD : ∀ {ds : List Dt} {d : Dt}, defF np n body ds = some d → ds.length = np ∧ runB body (entE n ds) = some d := fun {ds d} h => by
    unfold defF at h
    split at h
    · rename_i hb
      exact ⟨Nat.eq_of_beq_eq_true hb, h⟩
    · cases h
  refine fun_okC F S (fun vs H Q E h => ?_) fun A outer s H vs Q E hr h => ?_
  · obtain ⟨B, ds, d, g, n1, n2, r, e, q⟩ := h
    rw [r.length, (lenD e).1, hnp]
  · obtain ⟨B, ds, d, g, n1, n2, r, e, q⟩ := h
    obtain ⟨e1, e2⟩ := lenD e
    obtain ⟨ts, h1, h2⟩ := hb A outer s H E B hr ⟨n1, n2⟩
    refine ⟨ts, h1, ?_⟩
    unfold runB at e2
    have S0 := sd_start (N := N) g r
    rw [hn] at S0
    cases ho : body (entE n ds) with
    | none => rw [ho] at e2; cases e2
    | some o =>
      rw [ho] at e2
      refine h2 (L2.start N vs) H B _ o S0 ho _ ?_
      cases o with
      | nx e3 =>
        simp only [Option.some.injEq] at e2
        subst e2
        exact fun σ' H' B' g' S' => q .non H' B' S'.ent S'.gr .non
      | rt d3 e3 =>
        simp only [Option.some.injEq] at e2
        subst e2
        exact fun v σ' H' B' g' S' r' => q v H' B' S'.ent S'.gr r'
      | bk e3 => cases e2
      | ct e3 => cases e2
/-- a weaker meaning -/
theorem FnOk.sem {CX : CXT} {k : Nat} {f : Addr} {fd : FuncData} {ps : List Str} {T : List Addr} {g g' : List Dt → Option Dt} (F : FnOk P w K mg base CX k f fd ps (spD K T g)) (h : ∀ ds d, g' ds = some d → g ds = some d) : FnOk P w K mg base CX k f fd ps (spD K T g') :=
  F.imp fun vs H Q E ⟨B, ds, d, a1, a2, a3, a4, e, q⟩ => ⟨B, ds, d, a1, a2, a3, a4, h ds d e, q⟩
/-- the tables that a callee leans on are among the caller's -/
theorem FnOk.tabs {CX : CXT} {k : Nat} {f : Addr} {fd : FuncData} {ps : List Str} {T T' : List Addr} {g : List Dt → Option Dt} (F : FnOk P w K mg base CX k f fd ps (spD K T g)) (h : ∀ p ∈ T, p ∈ T') : FnOk P w K mg base CX k f fd ps (spD K T' g) :=
  F.imp fun vs H Q E ⟨B, ds, d, a1, a2, a3, a4, e, q⟩ => ⟨B, ds, d, a1, a2, fun p hp => a3 p (h p hp), a4, e, q⟩
end
/-! ### small things for the terms -/
theorem rp_lit {K : PySem.W.Frag} {x : Str} {s : List Nat} (h : x.cps.toList = s) : ∀ H : Hp, Rp K H (.str x) (.str s) := fun H => by
  have := Rp.str (K := K) (H := H) s
  rw [← h] at this ⊢
  simpa using this
theorem rd_ip {F : Act} {f : Int → Int → Int} : RD2 F (ipI f) (gI f) := rd_I
theorem hu64 {k : Nat} {A : Around} (r : Room k A) : A.units + 64 < cLine := by have := r.un; omega
theorem hu65 {k : Nat} {A : Around} (r : Room k A) : A.units + 65 < cLine := by have := r.un; omega
theorem pos_or {α : Type} {a b : Prop} (h : a) : a ∨ b := .inl h
end DL
namespace DL
open PySem PySem.Spec PyProof.Rows L2
section
variable {F : Act}
/-! ### a slot that is looked at, not taken -/
def vwE (env : DEnv) (i : Nat) : Option Dt := match env[i]? with
  | some (some o) => some (frz o)
  | _ => none
/-- x[e] -/
def fIxV (i : Nat) (fb : Fe) : Fe := fun env => match env[i]? with
  | some (some _) => match pur fb env with
    | none => none
    | some (y, e1) => match vwE e1 i with
      | none => none
      | some d => match gIx d y with
        | some o => some (o, e1)
        | none => none
  | _ => none
theorem slot_val {σ : L2.St} {H B : Hp} {env : DEnv} {i : Nat} {o : Ow} (S : SD F σ H B env) (h : env[i]? = some (some o)) : ∃ v, σ[i]? = some (some v) := by
  cases o with
  | sh d => obtain ⟨v, h1, _⟩ := S.slot i d h; exact ⟨v, h1⟩
  | lst ds => obtain ⟨l, vs, h1, _⟩ := S.own i ds h; exact ⟨_, h1⟩
theorem ed_ixV {i : Nat} {tb : TE} {fb : Fe} (hb : ED F tb fb) : ED F (tOp (rIx F.K) (tVar i) tb) (fIxV i fb) := by
  intro σ H B env o env' S e Q q
  unfold fIxV at e
  split at e
  rotate_left
  · cases e
  rename_i o0 h0
  obtain ⟨v, hv⟩ := slot_val S h0
  cases h1 : DL.pur fb env with
  | none => rw [h1] at e; cases e
  | some p1 =>
    obtain ⟨y, e1⟩ := p1
    rw [h1] at e
    dsimp only at e
    unfold vwE at e
    split at e
    · cases e
    · rename_i d hd
      split at hd
      rotate_left
      · cases hd
      rename_i o1 h2
      simp only [Option.some.injEq] at hd
      split at e
      · rename_i o2 h3
        simp only [Option.some.injEq, Prod.mk.injEq] at e
        obtain ⟨rfl, rfl⟩ := e
        refine ⟨v, hv, hb.pur σ H B env y e1 S h1 _ fun w H1 B1 L1 r1 => ?_⟩
        cases o1 with
        | sh d1 =>
          cases hd
          obtain ⟨v', k1, k2⟩ := L1.sd.slot i _ h2
          rw [hv] at k1
          cases k1
          exact rd_ix H1 B1 v w _ y o2 L1.sd.gr k2 r1 h3 Q fun z H3 B3 t g3 w3 => q z H3 B3 (L1.trans (Lft.of L1.sd t g3)) (w3.since L1.stp.th)
        | lst ds =>
          cases hd
          obtain ⟨l, vs, k1, k2, k3, k4, k5⟩ := L1.sd.own i ds h2
          rw [hv] at k1
          cases k1
          have h3' : gIx (.lst ds) y = some o2 := h3
          unfold gIx at h3'
          split at h3'
          · rename_i ds' j heq
            cases heq
            split at h3'
            · rename_i jj hj
              split at h3'
              · rename_i d2 hd2
                simp only [Option.some.injEq] at h3'
                subst h3'
                cases r1
                obtain ⟨z, e1', e2'⟩ := at_rps k5 hj hd2
                exact .inl ⟨_, _, j, z, rfl, rfl, .inl (.inl k4), e1', q z H1 B1 L1 e2'⟩
              · cases h3'
            · cases h3'
          · rename_i heq; cases heq
          · rename_i heq; cases heq
          · cases h3'
      · cases e
def scl : Ow → Bool
  | .sh (.lst _) | .sh (.tup _) | .lst _ => false
  | _ => true
theorem scl_ok {o : Ow} {H' B' Hs H2 B2 : Hp} {z : V} (h : scl o = true) (w : WOk F Hs H' B' z o) : WOk F H2 H2 B2 z o := by
  cases o with
  | sh d =>
    cases d <;> first
      | (simp [scl] at h; done)
      | skip
    · cases (show Rp F.K B' z .non from w); exact Rp.non
    · cases (show Rp F.K B' z (.bl _) from w); exact Rp.bl _
    · cases (show Rp F.K B' z (.int _) from w); exact Rp.int _
    · cases (show Rp F.K B' z (.str _) from w); exact Rp.str _
  | lst ds => simp [scl] at h
/-- what is asked of an own list as of a frozen one -/
theorem vw_frz {σ : L2.St} {H B : Hp} {env : DEnv} {i : Nat} {d : Dt} {v : V} (S : SD F σ H B env) (h : vwE env i = some d) (hv : σ[i]? = some (some v)) : ∃ B2, Gr B B2 ∧ Gr B2 H ∧ Rp F.K B2 v d := by
  unfold vwE at h
  split at h
  · rename_i o ho
    simp only [Option.some.injEq] at h
    subst h
    cases o with
    | sh d =>
      obtain ⟨v', k1, k2⟩ := S.slot i d ho
      rw [hv] at k1
      cases k1
      exact ⟨B, Gr.refl, S.gr, k2⟩
    | lst ds =>
      obtain ⟨l, vs, k1, k2, k3, k4, k5⟩ := S.own i ds ho
      rw [hv] at k1
      cases k1
      have t := stp_frz k2 k4
      exact ⟨upd B l (.lst vs), t.bb, gr_frz S.gr k4, .lst (.inl (.inl upd_same)) (k5.up t.bb)⟩
  · cases h
/-- e op x, the answer no list, no tuple -/
def fOpV (g : Dt → Dt → Option Ow) (fa : Fe) (i : Nat) : Fe := fun env => match pur fa env with
  | none => none
  | some (x, e1) => match vwE e1 i with
    | none => none
    | some y => match g x y with
      | some o => if scl o then some (o, e1) else none
      | none => none
theorem ed_opV {r : R2} {g : Dt → Dt → Option Ow} {ta : TE} {fa : Fe} {i : Nat} (ha : ED F ta fa) (hr : RD2 F r g) : ED F (tOp r ta (tVar i)) (fOpV g fa i) := by
  intro σ H B env o env' S e Q q
  unfold fOpV at e
  cases h1 : DL.pur fa env with
  | none => rw [h1] at e; cases e
  | some p1 =>
    obtain ⟨x, e1⟩ := p1
    rw [h1] at e
    dsimp only at e
    cases h2 : vwE e1 i with
    | none => rw [h2] at e; cases e
    | some y =>
      rw [h2] at e
      dsimp only at e
      cases h3 : g x y with
      | none => rw [h3] at e; cases e
      | some o1 =>
        rw [h3] at e
        dsimp only at e
        split at e
        · rename_i hs
          simp only [Option.some.injEq, Prod.mk.injEq] at e
          obtain ⟨rfl, rfl⟩ := e
          refine ha.pur σ H B env x e1 S h1 _ fun v H1 B1 L1 r1 => ?_
          have hv : ∃ w, σ[i]? = some (some w) := by
            unfold vwE at h2
            split at h2
            · rename_i o ho
              exact slot_val L1.sd ho
            · cases h2
          obtain ⟨w, hw⟩ := hv
          obtain ⟨B2, g1, g2, r2⟩ := vw_frz L1.sd h2 hw
          refine ⟨w, hw, hr H1 B2 v w x y o1 g2 (r1.up g1) r2 h3 Q fun z H3 B3 t g3 w3 => ?_⟩
          have stp : Stp (fun _ => False) B1 H1 B1 H3 := ⟨Gr.refl, fun _ k _ _ => k, t.hh, t.th, t.tb, fun _ _ k => k⟩
          have g4 : Gr B1 H3 := g1.trans (t.bb.trans g3)
          have L := L1.trans (Lft.of L1.sd stp g4)
          refine q z H3 B1 L ?_
          have w4 := scl_ok (H2 := H3) (B2 := B1) hs w3
          cases o1 with
          | sh d => exact w4
          | lst ds => simp [scl] at hs
        · cases e
/-- f(x) of a built-in f, the answer no list, no tuple -/
def fCBV (g : List Dt → Option Ow) (i : Nat) : Fe := fun env => match vwE env i with
  | none => none
  | some y => match g [y] with
    | some o => if scl o then some (o, env) else none
    | none => none
theorem ed_cbV {r : List V → Hp → VK → Prop} {g : List Dt → Option Ow} {i : Nat} (hr : RC F r g) : ED F (tCB r (tCons (tVar i) tNil)) (fCBV g i) := by
  intro σ H B env o env' S e Q q
  unfold fCBV at e
  cases h2 : vwE env i with
  | none => rw [h2] at e; cases e
  | some y =>
    rw [h2] at e
    dsimp only at e
    cases h3 : g [y] with
    | none => rw [h3] at e; cases e
    | some o1 =>
      rw [h3] at e
      dsimp only at e
      split at e
      · rename_i hs
        simp only [Option.some.injEq, Prod.mk.injEq] at e
        obtain ⟨rfl, rfl⟩ := e
        have hv : ∃ w, σ[i]? = some (some w) := by
          unfold vwE at h2
          split at h2
          · rename_i o ho
            exact slot_val S ho
          · cases h2
        obtain ⟨w, hw⟩ := hv
        obtain ⟨B2, g1, g2, r2⟩ := vw_frz S h2 hw
        refine ⟨w, hw, hr H B2 [w] [y] o1 g2 (.cons r2 .nil) h3 Q fun z H3 B3 t g3 w3 => ?_⟩
        have stp : Stp (fun _ => False) B H B H3 := ⟨Gr.refl, fun _ k _ _ => k, t.hh, t.th, t.tb, fun _ _ k => k⟩
        have g4 : Gr B H3 := g1.trans (t.bb.trans g3)
        refine q z H3 B (Lft.of S stp g4) ?_
        have w4 := scl_ok (H2 := H3) (B2 := B) hs w3
        cases o1 with
        | sh d => exact w4
        | lst ds => simp [scl] at hs
      · cases e
end
theorem ps_never {X : Cx} {st : Stmt} : PS X st tNever := ⟨fun _ _ _ _ _ _ h => h.elim⟩
end DL

namespace DL
open PySem PySem.Spec PyProof.Rows L2
/-! ### the rules, K by name -/
section
variable {X : Cx} {k : Nat}
theorem xop_add (K : PySem.W.Frag) (h : X.K = K := by rfl) : OpR X (binaryOp .Add) (rAddU K) := h ▸ op_addU
theorem xop_eq (K : PySem.W.Frag) (hr : Room k X.A) (h : X.K = K := by rfl) : OpR X (compareOp .Eq) (rEqD K) := h ▸ op_eqD (hu64 hr)
theorem xop_ne (K : PySem.W.Frag) (hr : Room k X.A) (h : X.K = K := by rfl) : OpR X (compareOp .NotEq) (rNeD K) := h ▸ op_neD (hu64 hr)
theorem xop_in (K : PySem.W.Frag) (hr : Room k X.A) (h : X.K = K := by rfl) : OpR X (compareOp .In) (rInU K) := h ▸ op_inU (hu65 hr)
theorem xop_ni (K : PySem.W.Frag) (hr : Room k X.A) (h : X.K = K := by rfl) : OpR X (compareOp .NotIn) (rNiU K) := h ▸ op_niU (hu65 hr)
theorem xsl (K : PySem.W.Frag) (h : X.K = K := by rfl) : SlR X (rSlU K) := h ▸ sl_U
theorem xix (K : PySem.W.Frag) (h : X.K = K := by rfl) : IxR X (rIx K) := h ▸ ix_seq
theorem xlen (K : PySem.W.Frag) (h : X.K = K := by rfl) : CallR X (.builtin "len") (rLen1 K) := h ▸ call_len1
theorem xall (K : PySem.W.Frag) (hc : X.calm = true := by rfl) (h : X.K = K := by rfl) : CallR X (.builtin "all") (rAll K) := h ▸ cr_all hc
theorem xany (K : PySem.W.Frag) (hc : X.calm = true := by rfl) (h : X.K = K := by rfl) : CallR X (.builtin "any") (rAny K) := h ▸ cr_any hc
theorem xmax2 (K : PySem.W.Frag) (hc : X.calm = true := by rfl) : CallR X (.builtin "max") rMx2 := call_mx2 hc
end
end DL
set_option Elab.async false
set_option linter.all false
set_option maxRecDepth 100000
/-! SL1: values over a store of mutable objects -/
namespace SL
open PySem PySem.Spec PyProof.Rows L2 DL
/-! ### values -/
inductive Vl where
  | non | bl (b : Bool) | int (i : Int) | str (s : List Nat) | tup (xs : List Vl) | fz (xs : List Vl) | ref (n : Nat) | glo (x : Str)
  deriving Inhabited
inductive AObj where
  | lst (xs : List Vl) | ins (C : Str) (fs : List (Str × Vl)) | dK (kvs : List (Key × Vl)) | dT (kvs : List (List Key × Vl))
  deriving Inhabited
abbrev Sto := List AObj
/-- what never changes, where the store's objects stand -/
structure Gd where
  b : Hp
  m : List Addr
mutual
inductive RV (K : PySem.W.Frag) (G : Gd) : V → Vl → Prop
  | non : RV K G .non .non
  | bl (b : Bool) : RV K G (.bl b) (.bl b)
  | int (i : Int) : RV K G (.int i) (.int i)
  | str (s : List Nat) : RV K G (.str ⟨s.toArray⟩) (.str s)
  | tup {a : Addr} {xs : List V} {ds : List Vl} : SqT K G.b a xs → RVs K G xs ds → RV K G (.ref a) (.tup ds)
  | fz {a : Addr} {xs : List V} {ds : List Vl} : SqL K G.b a xs → RVs K G xs ds → RV K G (.ref a) (.fz ds)
  | ref {a : Addr} {n : Nat} : G.m[n]? = some a → RV K G (.ref a) (.ref n)
  | glo {x : Str} : RV K G (.ref (He.ga K x)) (.glo x)
inductive RVs (K : PySem.W.Frag) (G : Gd) : List V → List Vl → Prop
  | nil : RVs K G [] []
  | cons {v : V} {vs : List V} {d : Vl} {ds : List Vl} : RV K G v d → RVs K G vs ds → RVs K G (v :: vs) (d :: ds)
end
/-- by the same names, values that belong together -/
inductive RF {κ : Type} (K : PySem.W.Frag) (G : Gd) : List (κ × V) → List (κ × Vl) → Prop
  | nil : RF K G [] []
  | cons {k : κ} {v : V} {d : Vl} {vs : List (κ × V)} {ds : List (κ × Vl)} : RV K G v d → RF K G vs ds → RF K G ((k, v) :: vs) ((k, d) :: ds)
inductive RO (K : PySem.W.Frag) (G : Gd) : HO → AObj → Prop
  | lst {vs : List V} {ds : List Vl} : RVs K G vs ds → RO K G (.lst vs) (.lst ds)
  | ins {C : Str} {dx : Addr} {fs : List (Str × V)} {gs : List (Str × Vl)} : RF K G fs gs → RO K G (.ins (He.ga K C) dx fs) (.ins C gs)
  | dK {kvs : List (Key × V)} {es : List (Key × Vl)} : RF K G kvs es → RO K G (.dK kvs) (.dK es)
  | dT {kvs : List (List Key × V)} {es : List (List Key × Vl)} : RF K G kvs es → RO K G (.dT kvs) (.dT es)
structure Ext (G G' : Gd) : Prop where
  gr : Gr G.b G'.b
  pre : ∀ (n : Nat) (a : Addr), G.m[n]? = some a → G'.m[n]? = some a
theorem Ext.refl {G : Gd} : Ext G G := ⟨Gr.refl, fun _ _ e => e⟩
theorem Ext.trans {G G1 G2 : Gd} (a : Ext G G1) (b : Ext G1 G2) : Ext G G2 := ⟨a.gr.trans b.gr, fun n x e => b.pre n x (a.pre n x e)⟩
section
variable {K : PySem.W.Frag} {G G' : Gd}
mutual
theorem RV.up (g : Ext G G') : ∀ {d : Vl} {v : V}, RV K G v d → RV K G' v d
  | .non, _, h => by cases h; exact .non
  | .bl _, _, h => by cases h; exact .bl _
  | .int _, _, h => by cases h; exact .int _
  | .str _, _, h => by cases h; exact .str _
  | .tup ds, _, h => by
    cases h with
    | tup h1 h2 => exact .tup (g.gr.sqT h1) (RVs.up g h2)
  | .fz ds, _, h => by
    cases h with
    | fz h1 h2 => exact .fz (g.gr.sqL h1) (RVs.up g h2)
  | .ref n, _, h => by
    cases h with
    | ref h1 => exact .ref (g.pre _ _ h1)
  | .glo x, _, h => by cases h; exact .glo
theorem RVs.up (g : Ext G G') : ∀ {ds : List Vl} {vs : List V}, RVs K G vs ds → RVs K G' vs ds
  | [], _, h => by cases h; exact .nil
  | d :: ds, _, h => by
    cases h with
    | cons h1 h2 => exact .cons (RV.up g h1) (RVs.up g h2)
end
theorem RF.up {κ : Type} (g : Ext G G') : ∀ {ds : List (κ × Vl)} {vs : List (κ × V)}, RF K G vs ds → RF K G' vs ds
  | [], _, h => by cases h; exact .nil
  | _ :: ds, _, h => by
    cases h with
    | cons h1 h2 => exact .cons (h1.up g) (RF.up g h2)
theorem RO.up (g : Ext G G') {u : HO} {o : AObj} (h : RO K G u o) : RO K G' u o := by
  cases h with
  | lst h => exact .lst (h.up g)
  | ins h => exact .ins (h.up g)
  | dK h => exact .dK (h.up g)
  | dT h => exact .dT (h.up g)
theorem RVs.length : ∀ {vs : List V} {ds : List Vl}, RVs K G vs ds → vs.length = ds.length
  | _, [], h => by cases h; rfl
  | _, _ :: ds, h => by
    cases h with
    | cons _ h2 => simp [RVs.length h2]
theorem RVs.get : ∀ {vs : List V} {ds : List Vl} {i : Nat} {d : Vl}, RVs K G vs ds → ds[i]? = some d → ∃ v, vs[i]? = some v ∧ RV K G v d
  | _, [], _, _, _, e => by simp at e
  | _, _ :: _, 0, _, h, e => by
    cases h with
    | cons h1 _ => exact ⟨_, rfl, by simp at e; rw [← e]; exact h1⟩
  | _, _ :: _, i + 1, _, h, e => by
    cases h with
    | cons _ h2 => exact RVs.get (i := i) h2 (by simpa using e)
theorem RVs.app : ∀ {vs ws : List V} {ds es : List Vl}, RVs K G vs ds → RVs K G ws es → RVs K G (vs ++ ws) (ds ++ es)
  | _, _, [], _, h, g => by cases h; exact g
  | _, _, _ :: _, _, h, g => by
    cases h with
    | cons h1 h2 => exact .cons h1 (RVs.app h2 g)
theorem RVs.take : ∀ {vs : List V} {ds : List Vl} (n : Nat), RVs K G vs ds → RVs K G (vs.take n) (ds.take n)
  | _, _, 0, _ => .nil
  | _, [], _ + 1, h => by cases h; exact .nil
  | _, _ :: _, n + 1, h => by
    cases h with
    | cons h1 h2 => exact .cons h1 (RVs.take n h2)
theorem RVs.drop : ∀ {vs : List V} {ds : List Vl} (n : Nat), RVs K G vs ds → RVs K G (vs.drop n) (ds.drop n)
  | _, _, 0, h => h
  | _, [], _ + 1, h => by cases h; exact .nil
  | _, _ :: _, n + 1, h => by
    cases h with
    | cons h1 h2 => exact RVs.drop n h2
theorem RVs.set {v : V} {d : Vl} (r : RV K G v d) : ∀ {vs : List V} {ds : List Vl} (n : Nat), RVs K G vs ds → RVs K G (vs.set n v) (ds.set n d)
  | _, [], _, h => by cases h; exact .nil
  | _, _ :: _, 0, h => by
    cases h with
    | cons _ h2 => exact .cons r h2
  | _, _ :: _, n + 1, h => by
    cases h with
    | cons h1 h2 => exact .cons h1 (RVs.set r n h2)
theorem RVs.rev : ∀ {vs : List V} {ds : List Vl}, RVs K G vs ds → RVs K G vs.reverse ds.reverse
  | _, [], h => by cases h; exact .nil
  | _, _ :: _, h => by
    cases h with
    | cons h1 h2 =>
      rw [List.reverse_cons, List.reverse_cons]
      exact (RVs.rev h2).app (.cons h1 .nil)
end
/-! ### the heap and the store -/
structure Act where
  K : PySem.W.Frag
  T : List Addr
structure HS (F : SL.Act) (H : Hp) (G : Gd) (S : Sto) : Prop where
  gr : Gr G.b H
  nt : ∀ a ps, G.b a ≠ some (.tbl ps)
  tb : ∀ p ∈ F.T, GxR.TabG H p
  len : G.m.length = S.length
  obj : ∀ (n : Nat) (o : AObj), S[n]? = some o → ∃ a u, G.m[n]? = some a ∧ H a = some u ∧ RO F.K G u o
  out : ∀ (n : Nat) (a : Addr), G.m[n]? = some a → G.b a = none
  inj : ∀ (i j : Nat) (a : Addr), G.m[i]? = some a → G.m[j]? = some a → i = j
theorem RO.notbl {K : PySem.W.Frag} {G : Gd} {u : HO} {o : AObj} (h : RO K G u o) : ∀ ps, u ≠ .tbl ps := by
  intro ps e
  cases h <;> cases e
section
variable {F : SL.Act} {H H' : Hp} {G : Gd} {S : Sto} {B' : Hp}
theorem HS.there (h : HS F H G S) {n : Nat} {a : Addr} (e : G.m[n]? = some a) : ∃ o u, S[n]? = some o ∧ H a = some u ∧ RO F.K G u o := by
  have hn : n < S.length := by
    rw [← h.len]
    exact (List.getElem?_eq_some_iff.mp e).1
  obtain ⟨a', u, e1, e2, e3⟩ := h.obj n _ (List.getElem?_eq_getElem hn)
  rw [e] at e1
  cases e1
  exact ⟨_, u, List.getElem?_eq_getElem hn, e2, e3⟩
/-- a step of the layer below that keeps every object -/
theorem HS.stp (h : HS F H G S) (t : Stp (fun _ => False) G.b H B' H') (g : Gr B' H') : HS F H' ⟨B', G.m⟩ S ∧ Ext G ⟨B', G.m⟩ := by
  have x : Ext G ⟨B', G.m⟩ := ⟨t.bb, fun _ _ e => e⟩
  refine ⟨⟨g, fun a ps e => h.nt a ps (t.bt a ps e), fun p hp => t.tb p (h.tb p hp), h.len, fun n o e => ?_, fun n a e => ?_, h.inj⟩, x⟩
  · obtain ⟨a, u, e1, e2, e3⟩ := h.obj n o e
    exact ⟨a, u, e1, t.hh a u e2 e3.notbl (fun z => z), e3.up x⟩
  · obtain ⟨o, u, e1, e2, e3⟩ := h.there e
    exact t.nw a (h.out n a e) (by rw [e2]; exact fun q => by cases q) (fun z => z)
/-- a new object of the store: what the layer below made, or an allocation -/
theorem HS.new (h : HS F H G S) {a : Addr} {u : HO} {o : AObj} (ha : ∀ n : Nat, G.m[n]? ≠ some a) (hb : G.b a = none) (e : H a = some u) (r : RO F.K G u o) : HS F H ⟨G.b, G.m ++ [a]⟩ (S ++ [o]) ∧ Ext G ⟨G.b, G.m ++ [a]⟩ ∧ (G.m ++ [a])[S.length]? = some a := by
  have x : Ext G ⟨G.b, G.m ++ [a]⟩ := ⟨Gr.refl, fun n b q => by
    show (G.m ++ [a])[n]? = some b
    rw [List.getElem?_append_left (List.getElem?_eq_some_iff.mp q).1]
    exact q⟩
  have at_ : ∀ (n : Nat) (b : Addr), (G.m ++ [a])[n]? = some b → G.m[n]? = some b ∨ (n = S.length ∧ b = a) := fun n b q => by
    by_cases hn : n < G.m.length
    · rw [List.getElem?_append_left hn] at q
      exact .inl q
    · rw [List.getElem?_append_right (by omega)] at q
      have hk : n - G.m.length = 0 := by
        have := (List.getElem?_eq_some_iff.mp q).1
        simp at this
        omega
      rw [hk] at q
      simp at q
      exact .inr ⟨by rw [← h.len]; omega, q.symm⟩
  have last : (G.m ++ [a])[S.length]? = some a := by
    rw [← h.len, List.getElem?_append_right (Nat.le_refl _)]
    simp
  refine ⟨⟨h.gr, h.nt, h.tb, by simp [h.len], fun n o' q => ?_, fun n b q => ?_, fun i j b q1 q2 => ?_⟩, x, last⟩
  · by_cases hn : n < S.length
    · rw [List.getElem?_append_left hn] at q
      obtain ⟨b, w, e1, e2, e3⟩ := h.obj n o' q
      exact ⟨b, w, x.pre n b e1, e2, e3.up x⟩
    · rw [List.getElem?_append_right (by omega)] at q
      have hk : n - S.length = 0 := by
        have := (List.getElem?_eq_some_iff.mp q).1
        simp at this
        omega
      rw [hk] at q
      simp at q
      have : n = S.length := by omega
      rw [this, ← q]
      exact ⟨a, u, last, e, r.up x⟩
  · rcases at_ n b q with z | ⟨_, rfl⟩
    · exact h.out n b z
    · exact hb
  · rcases at_ i b q1 with z | ⟨hi, rfl⟩
    · rcases at_ j b q2 with y | ⟨hj, rfl⟩
      · exact h.inj i j b z y
      · exact absurd z (ha i)
    · rcases at_ j b q2 with y | ⟨hj, _⟩
      · exact absurd y (ha j)
      · rw [hi, hj]
theorem HS.fresh (h : HS F H G S) {a : Addr} (e : H a = none) : (∀ n : Nat, G.m[n]? ≠ some a) ∧ G.b a = none := by
  refine ⟨fun n q => ?_, ?_⟩
  · obtain ⟨o, u, _, e2, _⟩ := h.there q
    rw [e] at e2
    cases e2
  · cases q : G.b a with
    | none => rfl
    | some u =>
      have := h.gr a u q
      rw [e] at this
      cases this
/-- an allocation -/
theorem HS.alloc (h : HS F H G S) {a : Addr} {u : HO} {o : AObj} (e : H a = none) (r : RO F.K G u o) : HS F (upd H a u) ⟨G.b, G.m ++ [a]⟩ (S ++ [o]) ∧ Ext G ⟨G.b, G.m ++ [a]⟩ ∧ (G.m ++ [a])[S.length]? = some a := by
  have t := h.stp (stp_new (B := G.b) (o := u) e) (gr_new h.gr e)
  exact HS.new (G := G) t.1 (h.fresh e).1 (h.fresh e).2 upd_same r
/-- a thing that never changes is laid -/
theorem HS.put (h : HS F H G S) {a : Addr} {u : HO} (e : H a = none) (ho : ∀ ps, u ≠ .tbl ps) : HS F (upd H a u) ⟨upd G.b a u, G.m⟩ S ∧ Ext G ⟨upd G.b a u, G.m⟩ :=
  h.stp (stp_put h.gr e ho) (gr_put h.gr e)
/-- an object is changed -/
theorem HS.chg (h : HS F H G S) {n : Nat} {a : Addr} {u u' : HO} {o' : AObj} (e : G.m[n]? = some a) (hu : H a = some u) (r : RO F.K G u' o') : HS F (upd H a u') G (S.set n o') := by
  have hn : n < S.length := by
    rw [← h.len]
    exact (List.getElem?_eq_some_iff.mp e).1
  obtain ⟨o, u0, _, e2, e3⟩ := h.there e
  refine ⟨fun b w q => ?_, h.nt, fun p hp => ?_, by rw [List.length_set]; exact h.len, fun k o1 q => ?_, h.out, h.inj⟩
  · rw [upd_ne (fun z => by rw [z, h.out n a e] at q; cases q)]
    exact h.gr b w q
  · obtain ⟨ps, q1, q2⟩ := h.tb p hp
    refine ⟨ps, ?_, q2⟩
    rw [upd_ne (fun z => by rw [z, e2] at q1; exact e3.notbl ps (Option.some.inj q1))]
    exact q1
  · by_cases hk : k = n
    · subst hk
      rw [List.getElem?_set_self hn] at q
      cases q
      exact ⟨a, u', e, upd_same, r⟩
    · rw [List.getElem?_set_ne (fun z => hk z.symm)] at q
      obtain ⟨b, w, e1, e4, e5⟩ := h.obj k o1 q
      refine ⟨b, w, e1, ?_, e5⟩
      rw [upd_ne (fun z => hk (h.inj k n a (by rw [← z]; exact e1) e))]
      exact e4
end
end SL
set_option Elab.async false
set_option linter.all false
set_option maxRecDepth 100000
/-! SL2: expressions as functions on slots and store -/
namespace SL
open PySem PySem.Spec PyProof.Rows L2 DL
inductive XCls where
  | own (x : Str) | bi (n : String)
structure Exc where
  cls : XCls
  pay : Option (List (Str × Vl))
inductive Rs (α : Type) where
  | ok (x : α) (S : Sto) | ex (e : Exc) (S : Sto) | bad
def Rs.bind {α β : Type} (r : Rs α) (g : α → Sto → Rs β) : Rs β := match r with
  | .ok x S => g x S
  | .ex e S => .ex e S
  | .bad => .bad
abbrev SEnv := List (Option Vl)
abbrev Fe := SEnv → Sto → Rs Vl
abbrev Ft := SEnv → Sto → Rs Bool
abbrev Fa := SEnv → Sto → Rs (List Vl)
structure RE (K : PySem.W.Frag) (G : Gd) (σ : L2.St) (env : SEnv) : Prop where
  len : σ.length = env.length
  slot : ∀ (i : Nat) (d : Vl), env[i]? = some (some d) → ∃ v, σ[i]? = some (some v) ∧ RV K G v d
theorem RE.up {K : PySem.W.Frag} {G G' : Gd} {σ : L2.St} {env : SEnv} (h : RE K G σ env) (x : Ext G G') : RE K G' σ env := ⟨h.len, fun i d e => let ⟨v, a, b⟩ := h.slot i d e; ⟨v, a, b.up x⟩⟩
def XCls.v (K : PySem.W.Frag) : XCls → Value
  | .own x => .ref (He.ga K x)
  | .bi n => .type n
def RX (K : PySem.W.Frag) (G : Gd) (H : Hp) (c : Value) (d : Option Addr) (e : Exc) : Prop :=
  c = e.cls.v K ∧ match e.pay with
    | none => d = none
    | some gs => ∃ a fs, d = some a ∧ H a = some (.xd fs) ∧ RF K G fs gs
/-- what is wished for of a result -/
def PG {α : Type} (F : SL.Act) (W : WX) (σ : L2.St) (G : Gd) (k : α → Hp → Gd → Prop) : Rs α → Prop
  | .ok x S' => ∀ (H' : Hp) (G' : Gd), Ext G G' → HS F H' G' S' → k x H' G'
  | .ex e S' => ∀ (c : Value) (d : Option Addr) (H' : Hp) (G' : Gd), Ext G G' → HS F H' G' S' → RX F.K G' H' c d e → W c d σ H'
  | .bad => False
section
variable {α β : Type} {F : SL.Act} {W : WX} {σ : L2.St} {G G' : Gd}
theorem PG.ext {k : α → Hp → Gd → Prop} {r : Rs α} (x : Ext G G') (h : PG F W σ G k r) : PG F W σ G' k r := by
  cases r with
  | ok y S' => exact fun H' G2 x2 hs => h H' G2 (x.trans x2) hs
  | ex e S' => exact fun c d H' G2 x2 hs => h c d H' G2 (x.trans x2) hs
  | bad => exact h
theorem PG.bind {k : β → Hp → Gd → Prop} {k1 : α → Hp → Gd → Prop} {r : Rs α} {g : α → Sto → Rs β} (h : PG F W σ G k (r.bind g))
    (q : ∀ (x : α) (S' : Sto) (H' : Hp) (G' : Gd), Ext G G' → HS F H' G' S' → PG F W σ G' k (g x S') → k1 x H' G') : PG F W σ G k1 r := by
  cases r with
  | ok y S' => exact fun H' G2 x2 hs => q y S' H' G2 x2 hs (PG.ext (F := F) x2 h)
  | ex e S' => exact h
  | bad => exact h
end
abbrev kV' (F : SL.Act) (Q : VK) : Vl → Hp → Gd → Prop := fun x H' G' => ∀ v, RV F.K G' v x → Q v H'
abbrev kB' (Q : Bool → Hp → Prop) : Bool → Hp → Gd → Prop := fun b H' _ => Q b H'
abbrev kA' (F : SL.Act) (Q : List V → Hp → Prop) : List Vl → Hp → Gd → Prop := fun xs H' G' => ∀ vs, RVs F.K G' vs xs → Q vs H'
def EV (F : SL.Act) (W : WX) (te : TE) (f : Fe) : Prop := ∀ (σ : L2.St) (H : Hp) (G : Gd) (env : SEnv) (S : Sto), HS F H G S → RE F.K G σ env → ∀ Q : VK, PG F W σ G (kV' F Q) (f env S) → te σ H Q
def EB (F : SL.Act) (W : WX) (tt : TT) (f : Ft) : Prop := ∀ (σ : L2.St) (H : Hp) (G : Gd) (env : SEnv) (S : Sto), HS F H G S → RE F.K G σ env → ∀ Q : Bool → Hp → Prop, PG F W σ G (kB' Q) (f env S) → tt σ H Q
def EA (F : SL.Act) (W : WX) (ta : TA) (f : Fa) : Prop := ∀ (σ : L2.St) (H : Hp) (G : Gd) (env : SEnv) (S : Sto), HS F H G S → RE F.K G σ env → ∀ Q : List V → Hp → Prop, PG F W σ G (kA' F Q) (f env S) → ta σ H Q
section
variable {F : SL.Act} {W : WX} {te ta tb : TE} {tt tu : TT} {tr : TA} {f fa fb : Fe} {ft fu : Ft}
/-! ### names, constants -/
def fVar (i : Nat) : Fe := fun env S => match env[i]? with
  | some (some d) => .ok d S
  | _ => .bad
theorem ev_var (i : Nat) : EV F W (tVar i) (fVar i) := by
  intro σ H G env S hs re Q q
  unfold fVar at q
  split at q
  · rename_i d e
    obtain ⟨v, h1, h2⟩ := re.slot i d e
    exact ⟨v, h1, q H G Ext.refl hs v h2⟩
  · exact q.elim
def fC (d : Vl) : Fe := fun _ S => .ok d S
theorem ev_c {v : V} {d : Vl} (r : ∀ G : Gd, RV F.K G v d) : EV F W (tC v) (fC d) := fun σ H G env S hs re Q q => q H G Ext.refl hs v (r G)
/-! ### operators by values -/
def fOp (g : Vl → Vl → Sto → Rs Vl) (fa fb : Fe) : Fe := fun env S => (fa env S).bind fun x S1 => (fb env S1).bind fun y S2 => g x y S2
def R2s (F : SL.Act) (W : WX) (r : R2) (g : Vl → Vl → Sto → Rs Vl) : Prop := ∀ (σ : L2.St) (H : Hp) (G : Gd) (S : Sto) (v w : V) (x y : Vl), HS F H G S → RV F.K G v x → RV F.K G w y → ∀ Q : VK, PG F W σ G (kV' F Q) (g x y S) → r v w H Q
theorem ev_op {r : R2} {g : Vl → Vl → Sto → Rs Vl} (ha : EV F W ta fa) (hb : EV F W tb fb) (hr : R2s F W r g) : EV F W (tOp r ta tb) (fOp g fa fb) := by
  intro σ H G env S hs re Q q
  refine ha σ H G env S hs re _ (q.bind fun x S1 H1 G1 x1 hs1 q1 v rv => ?_)
  refine hb σ H1 G1 env S1 hs1 (re.up x1) _ (q1.bind fun y S2 H2 G2 x2 hs2 q2 w rw => ?_)
  exact hr σ H2 G2 S2 v w x y hs2 (rv.up x2) rw Q q2
def fUn (g : Vl → Sto → Rs Vl) (fa : Fe) : Fe := fun env S => (fa env S).bind g
def R1s (F : SL.Act) (W : WX) (r : V → Hp → VK → Prop) (g : Vl → Sto → Rs Vl) : Prop := ∀ (σ : L2.St) (H : Hp) (G : Gd) (S : Sto) (v : V) (x : Vl), HS F H G S → RV F.K G v x → ∀ Q : VK, PG F W σ G (kV' F Q) (g x S) → r v H Q
theorem ev_un {r : V → Hp → VK → Prop} {g : Vl → Sto → Rs Vl} (ha : EV F W ta fa) (hr : R1s F W r g) : EV F W (tUn r ta) (fUn g fa) := by
  intro σ H G env S hs re Q q
  refine ha σ H G env S hs re _ (q.bind fun x S1 H1 G1 x1 hs1 q1 v rv => ?_)
  exact hr σ H1 G1 S1 v x hs1 rv Q q1
/-! ### tests -/
def fB (f : Fe) : Ft := fun env S => (f env S).bind fun x S1 => match x with
  | .bl b => .ok b S1
  | _ => .bad
theorem fB_ok {G : Gd} {σ : L2.St} {k : Bool → Hp → Gd → Prop} {r : Rs Vl} (q : PG F W σ G k (r.bind fun x S1 => match x with
  | .bl b => .ok b S1
  | _ => .bad)) : PG F W σ G (kV' F fun z H3 => ∃ b, z = V.bl b ∧ ∃ G3, Ext G G3 ∧ k b H3 G3) r := q.bind fun x S1 H1 G1 x1 hs1 q1 v rv => by
    cases x with
    | bl b =>
      cases rv
      exact ⟨b, rfl, G1, x1, q1 H1 G1 Ext.refl hs1⟩
    | _ => exact q1.elim
theorem eb_test (h : EV F W te f) : EB F W (tTest te) (fB f) := by
  intro σ H G env S hs re Q q
  refine h σ H G env S hs re _ (q.bind fun x S1 H1 G1 x1 hs1 q1 v rv => ?_)
  cases x with
  | bl b =>
    cases rv
    exact ⟨b, rfl, q1 H1 G1 Ext.refl hs1⟩
  | _ => exact q1.elim
theorem eb_val (h : EV F W te f) : EB F W (tB te) (fB f) := eb_test h
def tNot' (f : Ft) : Ft := fun env S => (f env S).bind fun b S1 => .ok (!b) S1
theorem eb_not (h : EB F W tt ft) : EB F W (tNot tt) (tNot' ft) := by
  intro σ H G env S hs re Q q
  exact h σ H G env S hs re _ (q.bind fun b S1 H1 G1 x1 hs1 q1 => q1 H1 G1 Ext.refl hs1)
def fAnd (f g : Ft) : Ft := fun env S => (f env S).bind fun b S1 => if b then g env S1 else .ok false S1
def fOr (f g : Ft) : Ft := fun env S => (f env S).bind fun b S1 => if b then .ok true S1 else g env S1
theorem eb_and (h : EB F W tt ft) (k : EB F W tu fu) : EB F W (tAnd tt tu) (fAnd ft fu) := by
  intro σ H G env S hs re Q q
  refine h σ H G env S hs re _ (q.bind fun b S1 H1 G1 x1 hs1 q1 => ?_)
  cases b with
  | true => exact k σ H1 G1 env S1 hs1 (re.up x1) Q q1
  | false => exact q1 H1 G1 Ext.refl hs1
theorem eb_or (h : EB F W tt ft) (k : EB F W tu fu) : EB F W (tOr tt tu) (fOr ft fu) := by
  intro σ H G env S hs re Q q
  refine h σ H G env S hs re _ (q.bind fun b S1 H1 G1 x1 hs1 q1 => ?_)
  cases b with
  | true => exact q1 H1 G1 Ext.refl hs1
  | false => exact k σ H1 G1 env S1 hs1 (re.up x1) Q q1
def fIf (c : Ft) (fa fb : Fe) : Fe := fun env S => (c env S).bind fun b S1 => if b then fa env S1 else fb env S1
theorem ev_if {c : Ft} (hc : EB F W tt c) (ha : EV F W ta fa) (hb : EV F W tb fb) : EV F W (tIf tt ta tb) (fIf c fa fb) := by
  intro σ H G env S hs re Q q
  refine hc σ H G env S hs re _ (q.bind fun b S1 H1 G1 x1 hs1 q1 => ?_)
  cases b with
  | true => exact ha σ H1 G1 env S1 hs1 (re.up x1) Q q1
  | false => exact hb σ H1 G1 env S1 hs1 (re.up x1) Q q1
/-- a test's answer as a value -/
def fV (f : Ft) : Fe := fun env S => (f env S).bind fun b S1 => .ok (.bl b) S1
theorem Rs.bind_assoc {α β γ : Type} (r : Rs α) (g : α → Sto → Rs β) (h : β → Sto → Rs γ) : (r.bind g).bind h = r.bind fun x S => (g x S).bind h := by
  cases r <;> rfl
theorem ev_andV (ha : EV F W ta fa) (hb : EV F W tb fb) : EV F W (tAndV ta tb) (fV (fAnd (fB fa) (fB fb))) := by
  intro σ H G env S hs re Q q
  unfold fV fAnd fB at q
  rw [Rs.bind_assoc, Rs.bind_assoc] at q
  refine ha σ H G env S hs re _ (q.bind fun x S1 H1 G1 x1 hs1 q1 v rv => ?_)
  cases x with
  | bl b =>
    cases rv
    refine ⟨b, rfl, ?_⟩
    cases b with
    | true =>
      have q2 : PG F W σ G1 (kV' F Q) (((fb env S1).bind fun x S1 => match x with | .bl b => .ok b S1 | _ => .bad).bind fun b S1 => .ok (.bl b) S1) := q1
      rw [Rs.bind_assoc] at q2
      rw [if_pos rfl]
      refine hb σ H1 G1 env S1 hs1 (re.up x1) _ (q2.bind fun y S2 H2 G2 x2 hs2 q3 w rw => ?_)
      cases y with
      | bl c =>
        cases rw
        exact q3 H2 G2 Ext.refl hs2 _ (.bl c)
      | _ => exact q3.elim
    | false =>
      rw [if_neg Bool.false_ne_true]
      exact q1 H1 G1 Ext.refl hs1 _ (.bl false)
  | _ => exact q1.elim
theorem ev_orV (ha : EV F W ta fa) (hb : EV F W tb fb) : EV F W (tOrV ta tb) (fV (fOr (fB fa) (fB fb))) := by
  intro σ H G env S hs re Q q
  unfold fV fOr fB at q
  rw [Rs.bind_assoc, Rs.bind_assoc] at q
  refine ha σ H G env S hs re _ (q.bind fun x S1 H1 G1 x1 hs1 q1 v rv => ?_)
  cases x with
  | bl b =>
    cases rv
    refine ⟨b, rfl, ?_⟩
    cases b with
    | false =>
      have q2 : PG F W σ G1 (kV' F Q) (((fb env S1).bind fun x S1 => match x with | .bl b => .ok b S1 | _ => .bad).bind fun b S1 => .ok (.bl b) S1) := q1
      rw [Rs.bind_assoc] at q2
      rw [if_neg Bool.false_ne_true]
      refine hb σ H1 G1 env S1 hs1 (re.up x1) _ (q2.bind fun y S2 H2 G2 x2 hs2 q3 w rw => ?_)
      cases y with
      | bl c =>
        cases rw
        exact q3 H2 G2 Ext.refl hs2 _ (.bl c)
      | _ => exact q3.elim
    | true =>
      rw [if_pos rfl]
      exact q1 H1 G1 Ext.refl hs1 _ (.bl true)
  | _ => exact q1.elim
theorem ev_notV (ha : EV F W ta fa) : EV F W (tNotV ta) (fV (tNot' (fB fa))) := by
  intro σ H G env S hs re Q q
  unfold fV tNot' fB at q
  rw [Rs.bind_assoc, Rs.bind_assoc] at q
  refine ha σ H G env S hs re _ (q.bind fun x S1 H1 G1 x1 hs1 q1 v rv => ?_)
  cases x with
  | bl b =>
    cases rv
    exact ⟨b, rfl, q1 H1 G1 Ext.refl hs1 _ (.bl _)⟩
  | _ => exact q1.elim
/-! ### arguments -/
def aNil : Fa := fun _ S => .ok [] S
def aCons (f : Fe) (g : Fa) : Fa := fun env S => (f env S).bind fun x S1 => (g env S1).bind fun xs S2 => .ok (x :: xs) S2
theorem ea_nil : EA F W tNil aNil := fun σ H G env S hs re Q q => q H G Ext.refl hs [] .nil
theorem ea_cons {g : Fa} (h : EV F W te f) (k : EA F W tr g) : EA F W (tCons te tr) (aCons f g) := by
  intro σ H G env S hs re Q q
  refine h σ H G env S hs re _ (q.bind fun x S1 H1 G1 x1 hs1 q1 v rv => ?_)
  refine k σ H1 G1 env S1 hs1 (re.up x1) _ (q1.bind fun xs S2 H2 G2 x2 hs2 q2 vs rvs => ?_)
  exact q2 H2 G2 Ext.refl hs2 _ (.cons (rv.up x2) rvs)
def fCB (g : List Vl → Sto → Rs Vl) (fq : Fa) : Fe := fun env S => (fq env S).bind g
def RCs (F : SL.Act) (W : WX) (r : List V → Hp → VK → Prop) (g : List Vl → Sto → Rs Vl) : Prop := ∀ (σ : L2.St) (H : Hp) (G : Gd) (S : Sto) (vs : List V) (xs : List Vl), HS F H G S → RVs F.K G vs xs → ∀ Q : VK, PG F W σ G (kV' F Q) (g xs S) → r vs H Q
theorem ev_cb {r : List V → Hp → VK → Prop} {g : List Vl → Sto → Rs Vl} {fq : Fa} (ha : EA F W tr fq) (hr : RCs F W r g) : EV F W (tCB r tr) (fCB g fq) := by
  intro σ H G env S hs re Q q
  refine ha σ H G env S hs re _ (q.bind fun x S1 H1 G1 x1 hs1 q1 v rv => ?_)
  exact hr σ H1 G1 S1 v x hs1 rv Q q1
/-! ### displays -/
def fTup (g : Fa) : Fe := fun env S => (g env S).bind fun xs S1 => if Nat.ble xs.length 16777216 then .ok (.tup xs) S1 else .bad
def fLst (g : Fa) : Fe := fun env S => (g env S).bind fun xs S1 => if Nat.ble xs.length 16777216 then .ok (.ref S1.length) (S1 ++ [.lst xs]) else .bad
theorem ev_tup {g : Fa} (h : EA F W tr g) : EV F W (tTup tr) (fTup g) := by
  intro σ H G env S hs re Q q
  refine h σ H G env S hs re _ (q.bind fun xs S1 H1 G1 x1 hs1 q1 vs rvs => ?_)
  split at q1
  · rename_i hb
    refine ⟨by rw [rvs.length]; exact szl hb, fun a ha => ?_⟩
    obtain ⟨hs2, x2⟩ := hs1.put (u := .tup vs) ha (fun ps z => by cases z)
    exact q1 _ _ x2 hs2 _ (.tup (.inl (.inl upd_same)) (rvs.up x2))
  · exact q1.elim
theorem ev_lst {g : Fa} (h : EA F W tr g) : EV F W (tLst tr) (fLst g) := by
  intro σ H G env S hs re Q q
  refine h σ H G env S hs re _ (q.bind fun xs S1 H1 G1 x1 hs1 q1 vs rvs => ?_)
  split at q1
  · rename_i hb
    refine ⟨by rw [rvs.length]; exact szl hb, fun a ha => ?_⟩
    obtain ⟨hs2, x2, l2⟩ := hs1.alloc (u := .lst vs) (o := .lst xs) ha (.lst rvs)
    exact q1 _ _ x2 hs2 _ (.ref l2)
  · exact q1.elim
end
end SL
set_option Elab.async false
set_option linter.all false
set_option maxRecDepth 100000
/-! SL3: calls, fields, methods, new instances -/
namespace SL
open PySem PySem.Spec PyProof.Rows L2 DL
/-! ### rules whose wish may look at the slots -/
def tMethX (C : Addr) (m : Str) (sp : Sp) (dvs : List V) (E : L2.St → XK) (ta : TE) (t : TA) : TE := fun σ H Q => ta σ H fun x H1 => ∃ a dx fs, x = .ref a ∧ H1 a = some (.ins C dx fs) ∧ fs.lookup m = none ∧
  t σ H1 fun vs H2 => sp (x :: (vs ++ dvs)) H2 Q (E σ)
def tMakeX (C : Addr) (sp : Sp) (dvs : List V) (E : L2.St → XK) (t : TA) : TE := fun σ H Q => t σ H fun vs H1 => ∀ x dx, H1 x = none → H1 dx = none → dx ≠ x →
  sp (.ref x :: (vs ++ dvs)) (upd (upd H1 dx (.own x)) x (.ins C dx [])) (fun v H2 => v = .non ∧ Q (.ref x) H2) (E σ)
section
variable {X : Cx} {CX : CXT} {k : Nat} {f C : Addr} {fd : FuncData} {ps : List Str} {sp : Sp} {dvs : List V} {ds : List Value} {E : L2.St → XK} {x m : Str} {p pos apos : Pos} {e o : Expr} {es : List Expr} {ta : TE} {t : TA}
theorem pe_methX {pl : Sem Bool} (he : PE X o ta) (c : Cls X.K C) (hm : Meth X.K C m f) (F : FnOk X.prog X.w X.K X.mg X.base CX k f fd ps sp) (hr : Room k X.A) (hb : Binds X.K fd ps ds) (hd : Vals dvs ds) (hx : ∀ σ, PassesAt CX X σ (E σ)) (ha : PA X (e :: es) t)
    (hst : starEach (e :: es) X.env = (false, eval e X.env) :: starEach es X.env := by rfl) (hpl : (backTo pos (starEach es X.env)).any (·.1) = false := by rfl)
    (ht : eval (.Call (.Attribute o m apos) (e :: es) [] pos) X.env = (do
      let ov ← eval o X.env
      standAt apos.atName
      let (f, first) ← holding [ov] (getMethod ov m pl)
      callWith pos f first (backTo pos (starEach (e :: es) X.env)) (backToKw pos (keywordEach [] X.env))) := by rfl) :
    PE X (.Call (.Attribute o m apos) (e :: es) [] pos) (tMethX C m sp dvs E ta t) := by
  refine ⟨fun pins s σ H Q I h => ?_⟩
  refine PySem.W.methodCall_KW (pl := pl) (thn (he.run pins s σ H _ I h) fun u s1 ⟨x, H1, I1, rx, a, dx, fs, ex, ea, l, q⟩ => ?_) ht
  subst ex
  obtain rfl : u = Value.ref a := rx
  refine getmeth_ok I1 ea c hm l ?_
  refine PySem.W.callWith_K (first := [.ref a]) (h₀ := X.base) I.ok.mod.kin hm.kp (thn (ha.run pos pins s1 σ H1 _ I1 q) fun us s2 ⟨vs, H2, I2, r, q2⟩ => ⟨I2.kIn, ?_⟩) hst hpl
  exact run_fnSD (us := .ref a :: us) (vs := .ref a :: vs) F hr hb hd (hx σ) I2 (.cons rfl r) q2
theorem pe_methX0 {pl : Sem Bool} (he : PE X o ta) (c : Cls X.K C) (hm : Meth X.K C m f) (F : FnOk X.prog X.w X.K X.mg X.base CX k f fd ps sp) (hr : Room k X.A) (hb : Binds X.K fd ps ds) (hd : Vals dvs ds) (hx : ∀ σ, PassesAt CX X σ (E σ))
    (ht : eval (.Call (.Attribute o m apos) [] [] pos) X.env = (do
      let ov ← eval o X.env
      standAt apos.atName
      let (f, first) ← holding [ov] (getMethod ov m pl)
      callWith pos f first (backTo pos (starEach [] X.env)) (backToKw pos (keywordEach [] X.env))) := by rfl) :
    PE X (.Call (.Attribute o m apos) [] [] pos) (tMethX C m sp dvs E ta tNil) := by
  refine ⟨fun pins s σ H Q I h => ?_⟩
  refine PySem.W.methodCall_KW (pl := pl) (thn (he.run pins s σ H _ I h) fun u s1 ⟨x, H1, I1, rx, a, dx, fs, ex, ea, l, q⟩ => ?_) ht
  subst ex
  obtain rfl : u = Value.ref a := rx
  refine getmeth_ok I1 ea c hm l ?_
  exact PySem.W.callWith_K0 (first := [.ref a]) I1.kIn hm.kp (run_fnSD (us := [.ref a]) (vs := [.ref a]) F hr hb hd (hx σ) I1 (.cons rfl .nil) q)
theorem run_makeX {pins : List (Addr × Obj)} {σ : L2.St} {H : Hp} {s : Shared} {Q : VK} {us : List Value} {vs : List V} (M : Mk X.K C f) (F : FnOk X.prog X.w X.K X.mg X.base CX k f fd ps sp) (hr : Room (k + 1) X.A) (hb : Binds X.K fd ps ds) (hd : Vals dvs ds)
    (hx : PassesAt CX X σ (E σ)) (I : Inv X pins σ H s) (r : Vals vs us)
    (h : ∀ x dx, H x = none → H dx = none → dx ≠ x → sp (.ref x :: (vs ++ dvs)) (upd (upd H dx (.own x)) x (.ins C dx [])) (fun v H2 => v = .non ∧ Q (.ref x) H2) (E σ)) :
    wpAny (model X.prog X.w) X.A (call (.ref C) us) (L2.EP X pins σ Q) X.xe s := by
  have hq := h (s.heap.objs.size + 1) s.heap.objs.size (I.hok.fresh (Nat.le_succ _)) (I.hok.fresh (Nat.le_refl _)) (Nat.ne_of_lt (Nat.lt_succ_self _))
  have I2 := Inv.made (C := C) I
  have r2 : Vals (V.ref (s.heap.objs.size + 1) :: (vs ++ dvs)) (Value.ref (s.heap.objs.size + 1) :: (us ++ ds)) := .cons rfl (r.append hd)
  have hl : (Value.ref (s.heap.objs.size + 1) :: us ++ ds).length = ps.length := by
    have e := r2.length
    rw [F.len _ _ _ _ hq] at e
    exact e.symm
  refine wpAny_call (make_map (f := f) I.kIn M.makes M.init (beq_iff_eq.mp M.fn) (codeAny_mono (F.run _ X.stack _ _ ⟨Value.ref (s.heap.objs.size + 1) :: us, []⟩ (Value.ref (s.heap.objs.size + 1) :: (us ++ ds)) _ _ (E σ) (hr.make C us [])
    (I2.env0.make C us []) (hb _ (Value.ref (s.heap.objs.size + 1) :: us) I2.kIn hl) r2 hq) fun r s' hq' => ?_))
  cases r with
  | error e => exact hx pins _ _ e s' I2 hq'
  | ok fl =>
    cases fl with
    | ret u =>
      obtain ⟨v, H', I3, rv, ev, q3⟩ := I2.after hq'
      subst ev
      exact ⟨rv, ⟨V.ref (s.heap.objs.size + 1), H', I3, rfl, q3⟩⟩
    | next => exact False.elim hq'
    | brk => exact False.elim hq'
    | cont => exact False.elim hq'
theorem pe_makeX (M : Mk X.K C f) (F : FnOk X.prog X.w X.K X.mg X.base CX k f fd ps sp) (hr : Room (k + 1) X.A) (hg : Gl X x) (hm : X.mg x = some (.ref C)) (hb : Binds X.K fd ps ds) (hd : Vals dvs ds) (hx : ∀ σ, PassesAt CX X σ (E σ))
    (ha : PA X (e :: es) t) (hdb : (x == ("__debug__" : Str)) = false := by decide) (he : starEach (e :: es) X.env = (false, eval e X.env) :: starEach es X.env := by rfl) (hpl : (backTo pos (starEach es X.env)).any (·.1) = false := by rfl) :
    PE X (.Call (.Name x p) (e :: es) [] pos) (tMakeX C sp dvs E t) := by
  refine ⟨fun pins s σ H Q I h => ?_⟩
  refine wpAny_Call_Name_kw (ld_glob I hg hm ?_ hdb)
  refine PySem.W.callWith_K (h₀ := X.base) I.ok.mod.kin M.kp (thn (ha.run pos pins s σ H _ I h) fun us s1 ⟨vs, H1, I1, r, q⟩ => ⟨I1.kIn, ?_⟩) he hpl
  exact run_makeX M F hr hb hd (hx σ) I1 r q
theorem pe_makeX0 (M : Mk X.K C f) (F : FnOk X.prog X.w X.K X.mg X.base CX k f fd ps sp) (hr : Room (k + 1) X.A) (hg : Gl X x) (hm : X.mg x = some (.ref C)) (hb : Binds X.K fd ps ds) (hd : Vals dvs ds) (hx : ∀ σ, PassesAt CX X σ (E σ))
    (hdb : (x == ("__debug__" : Str)) = false := by decide) : PE X (.Call (.Name x p) [] [] pos) (tMakeX C sp dvs E tNil) := by
  refine ⟨fun pins s σ H Q I h => ?_⟩
  refine wpAny_Call_Name_kw (ld_glob I hg hm ?_ hdb)
  exact PySem.W.callWith_K0 I.kIn M.kp (run_makeX (us := []) M F hr hb hd (hx σ) I .nil h)
end
/-! ### promises -/
abbrev Fn := List Vl → Sto → Rs Vl
/-- what a call's result is wished to be -/
def spS (F : SL.Act) (f : Fn) : Sp := fun vs H Q E => ∃ (G : Gd) (xs : List Vl) (S : Sto), HS F H G S ∧ RVs F.K G vs xs ∧ PG F (fun c d _ H' => E c d H') [] G (kV' F Q) (f xs S)
theorem PG.call {α : Type} {F : SL.Act} {W : WX} {σ : L2.St} {G : Gd} {k : α → Hp → Gd → Prop} {r : Rs α} (h : PG F W σ G k r) : PG F (fun c d _ H' => WE W σ c d H') [] G k r := by
  cases r <;> exact h
section
variable {F : SL.Act} {W : WX} {te ta tb : TE} {tr : TA} {fa fb : Fe}
def fCall (f : Fn) (g : Fa) : Fe := fun env S => (g env S).bind f
theorem ev_call {f : Fn} {g : Fa} (ha : EA F W tr g) : EV F W (tCallS (spS F f) (WE W) tr) (fCall f g) := by
  intro σ H G env S hs re Q q
  refine ha σ H G env S hs re _ (q.bind fun xs S1 H1 G1 x1 hs1 q1 vs rvs => ?_)
  exact ⟨G1, xs, S1, hs1, rvs, q1.call⟩
/-! ### fields -/
def gFld (f : Str) (x : Vl) (S : Sto) : Rs Vl := match x with
  | .ref n => match S[n]? with
    | some (.ins _ fs) => match fs.lookup f with
      | some d => .ok d S
      | none => .bad
    | _ => .bad
  | _ => .bad
theorem RF.get {κ : Type} [BEq κ] {K : PySem.W.Frag} {G : Gd} {f : κ} : ∀ {vs : List (κ × V)} {ds : List (κ × Vl)} {d : Vl}, RF K G vs ds → ds.lookup f = some d → ∃ v, vs.lookup f = some v ∧ RV K G v d
  | _, [], _, _, e => by simp at e
  | _, (k, d0) :: ds, d, h, e => by
    cases h with
    | cons h1 h2 =>
      rw [List.lookup_cons] at e ⊢
      cases q : f == k with
      | true =>
        rw [q] at e
        simp only [Option.some.injEq] at e
        subst e
        exact ⟨_, rfl, h1⟩
      | false =>
        rw [q] at e
        exact RF.get h2 e
theorem RF.no {κ : Type} [BEq κ] {K : PySem.W.Frag} {G : Gd} {f : κ} : ∀ {vs : List (κ × V)} {ds : List (κ × Vl)}, RF K G vs ds → ds.lookup f = none → vs.lookup f = none
  | _, [], h, _ => by cases h; rfl
  | _, (k, d0) :: ds, h, e => by
    cases h with
    | cons h1 h2 =>
      rw [List.lookup_cons] at e ⊢
      cases q : f == k with
      | true => rw [q] at e; cases e
      | false =>
        rw [q] at e
        exact RF.no h2 e
theorem RF.length {κ : Type} {K : PySem.W.Frag} {G : Gd} : ∀ {vs : List (κ × V)} {ds : List (κ × Vl)}, RF K G vs ds → vs.length = ds.length
  | _, [], h => by cases h; rfl
  | _, _ :: ds, h => by
    cases h with
    | cons _ h2 => simp [RF.length h2]
/-- the classes that have instances in the store, by names -/
structure ClsOk (K : PySem.W.Frag) (C : Str) (fs : List Str) : Prop where
  cl : Cls K (He.ga K C)
  no : ∀ f ∈ fs, NoAttr K (He.ga K C) f
/-- f is no attribute of any class of the list -/
def FldOk (K : PySem.W.Frag) (cs : List Str) (f : Str) : Prop := ∀ C ∈ cs, Cls K (He.ga K C) ∧ NoAttr K (He.ga K C) f
def gFldC (cs : List Str) (f : Str) (x : Vl) (S : Sto) : Rs Vl := match x with
  | .ref n => match S[n]? with
    | some (.ins C fs) => if cs.contains C then match fs.lookup f with
        | some d => .ok d S
        | none => .bad
      else .bad
    | _ => .bad
  | _ => .bad
theorem HS.ins {H : Hp} {G : Gd} {S : Sto} (hs : HS F H G S) {v : V} {n : Nat} {C : Str} {gs : List (Str × Vl)} (r : RV F.K G v (.ref n)) (e : S[n]? = some (.ins C gs)) : ∃ a dx fs, v = .ref a ∧ G.m[n]? = some a ∧ H a = some (.ins (He.ga F.K C) dx fs) ∧ RF F.K G fs gs := by
  cases r with
  | ref ea =>
    rename_i a
    obtain ⟨b, u, e1, e2, e3⟩ := hs.obj n _ e
    rw [ea] at e1
    cases e1
    cases e3 with
    | ins h => exact ⟨a, _, _, rfl, ea, e2, h⟩
theorem ev_fld {cs : List Str} {f : Str} (hc : FldOk F.K cs f) (ha : EV F W ta fa) : EV F W (tFld F.K ta f) (fUn (gFldC cs f) fa) := by
  intro σ H G env S hs re Q q
  refine ha σ H G env S hs re _ (q.bind fun x S1 H1 G1 x1 hs1 q1 v rv => ?_)
  unfold gFldC at q1
  split at q1
  · split at q1
    · rename_i n C gs e
      split at q1
      · rename_i hin
        split at q1
        · rename_i d el
          obtain ⟨a, dx, fs, rfl, ea, eh, rf⟩ := hs1.ins rv e
          obtain ⟨w, e1, rw'⟩ := rf.get el
          have hC := hc C (by simpa using hin)
          exact ⟨a, _, dx, fs, w, rfl, eh, hC.1, hC.2, e1, q1 H1 G1 Ext.refl hs1 w rw'⟩
        · exact q1.elim
      · exact q1.elim
    · exact q1.elim
  · exact q1.elim
/-! ### methods of the instances of one class -/
def fMeth (C m : Str) (f : Fn) (fa : Fe) (g : Fa) : Fe := fun env S => (fa env S).bind fun x S1 => match x with
  | .ref n => match S1[n]? with
    | some (.ins C' fs) => if C' == C then match fs.lookup m with
        | none => (g env S1).bind fun xs S2 => f (x :: xs) S2
        | some _ => .bad
      else .bad
    | _ => .bad
  | _ => .bad
theorem ev_meth {C m : Str} {f : Fn} {g : Fa} (ha : EV F W ta fa) (hg : EA F W tr g) : EV F W (tMethX (He.ga F.K C) m (spS F f) [] (WE W) ta tr) (fMeth C m f fa g) := by
  intro σ H G env S hs re Q q
  refine ha σ H G env S hs re _ (q.bind fun x S1 H1 G1 x1 hs1 q1 v rv => ?_)
  split at q1
  · rename_i n
    split at q1
    · rename_i C' gs e
      split at q1
      · rename_i hc
        obtain rfl : C' = C := by simpa using hc
        split at q1
        · rename_i el
          obtain ⟨a, dx, fs, rfl, ea, eh, rf⟩ := hs1.ins rv e
          refine ⟨a, dx, fs, rfl, eh, rf.no el, ?_⟩
          refine hg σ H1 G1 env S1 hs1 (re.up x1) _ (q1.bind fun xs S2 H2 G2 x2 hs2 q2 vs rvs => ?_)
          show spS F f (V.ref a :: (vs ++ [])) H2 Q (WE W σ)
          rw [List.append_nil]
          exact ⟨G2, _, S2, hs2, .cons (rv.up x2) rvs, q2.call⟩
        · exact q1.elim
      · exact q1.elim
    · exact q1.elim
  · exact q1.elim
/-! ### a new instance -/
def fMake (C : Str) (f : Fn) (g : Fa) : Fe := fun env S => (g env S).bind fun xs S1 => (f (.ref S1.length :: xs) (S1 ++ [.ins C []])).bind fun r S2 => match r with
  | .non => .ok (.ref S1.length) S2
  | _ => .bad
theorem ev_make {C : Str} {f : Fn} {g : Fa} (hg : EA F W tr g) : EV F W (tMakeX (He.ga F.K C) (spS F f) [] (WE W) tr) (fMake C f g) := by
  intro σ H G env S hs re Q q
  refine hg σ H G env S hs re _ (q.bind fun xs S1 H1 G1 x1 hs1 q1 vs rvs => ?_)
  intro x dx hx hdx hne
  have t1 := hs1.stp (stp_new (B := G1.b) (o := HO.own x) hdx) (gr_new hs1.gr hdx)
  have hx2 : (upd H1 dx (.own x)) x = none := by
    rw [upd_ne (fun z => hne z.symm)]
    exact hx
  obtain ⟨hs2, x2, l2⟩ := t1.1.alloc (u := .ins (He.ga F.K C) dx []) (o := .ins C []) hx2 (.ins .nil)
  have x3 : Ext G1 ⟨G1.b, G1.m ++ [x]⟩ := x2
  refine ⟨⟨G1.b, G1.m ++ [x]⟩, .ref S1.length :: xs, S1 ++ [.ins C []], hs2, ?_, ?_⟩
  · rw [List.append_nil]
    exact .cons (.ref l2) (rvs.up x3)
  · refine PG.call (PG.bind (PG.ext x3 q1) fun r S2 H2 G2 x4 hs3 q2 v rv => ?_)
    cases r with
    | non =>
      cases rv
      exact ⟨rfl, q2 H2 G2 Ext.refl hs3 _ (.ref (x4.pre _ _ l2))⟩
    | _ => exact q2.elim
end
end SL
set_option Elab.async false
set_option linter.all false
set_option maxRecDepth 100000
/-! SL4: statements, loops -/
namespace SL
open PySem PySem.Spec PyProof.Rows L2 DL
inductive Out where
  | nx (env : SEnv) (S : Sto) | rt (x : Vl) (S : Sto) | bk (env : SEnv) (S : Sto) | ct (env : SEnv) (S : Sto) | ex (e : Exc) (env : SEnv) (S : Sto) | bad
abbrev Fs := SEnv → Sto → Out
def PO (F : SL.Act) (W : WX) (G : Gd) (D : Ends) : Out → Prop
  | .nx env S => ∀ (σ : L2.St) (H : Hp) (G' : Gd), Ext G G' → HS F H G' S → RE F.K G' σ env → D.nx σ H
  | .rt x S => ∀ (v : V) (H : Hp) (G' : Gd), Ext G G' → HS F H G' S → RV F.K G' v x → D.rt v H
  | .bk env S => ∀ (σ : L2.St) (H : Hp) (G' : Gd), Ext G G' → HS F H G' S → RE F.K G' σ env → D.bk σ H
  | .ct env S => ∀ (σ : L2.St) (H : Hp) (G' : Gd), Ext G G' → HS F H G' S → RE F.K G' σ env → D.ct σ H
  | .ex e env S => ∀ (c : Value) (d : Option Addr) (σ : L2.St) (H : Hp) (G' : Gd), Ext G G' → HS F H G' S → RE F.K G' σ env → RX F.K G' H c d e → W c d σ H
  | .bad => False
def ES (F : SL.Act) (W : WX) (ts : TS) (fs : Fs) : Prop := ∀ (σ : L2.St) (H : Hp) (G : Gd) (env : SEnv) (S : Sto), HS F H G S → RE F.K G σ env → ∀ D : Ends, PO F W G D (fs env S) → ts D σ H
def Rs.out {α : Type} (r : Rs α) (env : SEnv) (g : α → Sto → Out) : Out := match r with
  | .ok x S => g x S
  | .ex e S => .ex e env S
  | .bad => .bad
section
variable {α : Type} {F : SL.Act} {W : WX} {te ta tb : TE} {tt : TT} {tr : TA} {ts tu : TS} {f fa fb : Fe} {c : Ft} {fs gs : Fs} {G G' : Gd} {D : Ends}
theorem PO.ext {o : Out} (x : Ext G G') (h : PO F W G D o) : PO F W G' D o := by
  cases o with
  | nx env S => exact fun σ H G2 y => h σ H G2 (x.trans y)
  | rt d S => exact fun v H G2 y => h v H G2 (x.trans y)
  | bk env S => exact fun σ H G2 y => h σ H G2 (x.trans y)
  | ct env S => exact fun σ H G2 y => h σ H G2 (x.trans y)
  | ex e env S => exact fun c d σ H G2 y => h c d σ H G2 (x.trans y)
  | bad => exact h
theorem PO.out {σ : L2.St} {r : Rs α} {env : SEnv} {g : α → Sto → Out} {k : α → Hp → Gd → Prop} (h : PO F W G D (r.out env g)) (re : RE F.K G σ env)
    (q : ∀ (x : α) (S' : Sto) (H' : Hp) (G' : Gd), Ext G G' → HS F H' G' S' → PO F W G' D (g x S') → k x H' G') : PG F W σ G k r := by
  cases r with
  | ok y S' => exact fun H' G2 x2 hs => q y S' H' G2 x2 hs (PO.ext (F := F) x2 h)
  | ex e S' => exact fun c d H' G2 x2 hs rx => h c d σ H' G2 x2 hs (re.up x2) rx
  | bad => exact h
theorem RE.put {σ : L2.St} {env : SEnv} {v : V} {d : Vl} (re : RE F.K G σ env) (i : Nat) (r : RV F.K G v d) : RE F.K G (σ.set i (some v)) (env.set i (some d)) := by
  refine ⟨by rw [List.length_set, List.length_set]; exact re.len, fun j e h => ?_⟩
  by_cases hj : i = j
  · subst hj
    have hi : i < env.length := by
      have := (List.getElem?_eq_some_iff.mp h).1
      simpa using this
    rw [List.getElem?_set_self hi] at h
    cases h
    exact ⟨v, List.getElem?_set_self (by rw [re.len]; exact hi), r⟩
  · rw [List.getElem?_set_ne hj] at h
    obtain ⟨w, a, b⟩ := re.slot j e h
    exact ⟨w, by rw [List.getElem?_set_ne hj]; exact a, b⟩
/-! ### one behind another -/
def sSeq (f g : Fs) : Fs := fun env S => match f env S with
  | .nx e S' => g e S'
  | r => r
theorem es_seq (h : ES F W ts fs) (k : ES F W tu gs) : ES F W (tSeq ts tu) (sSeq fs gs) := by
  intro σ H G env S hs re D P
  unfold sSeq at P
  refine h σ H G env S hs re { D with nx := tu D } ?_
  cases h1 : fs env S with
  | nx e S' =>
    rw [h1] at P
    exact fun σ' H' G' x hs' re' => k σ' H' G' e S' hs' re' D (PO.ext (F := F) x P)
  | rt d S' => rw [h1] at P; exact P
  | bk e S' => rw [h1] at P; exact P
  | ct e S' => rw [h1] at P; exact P
  | ex e env' S' => rw [h1] at P; exact P
  | bad => rw [h1] at P; exact P
def sNx : Fs := fun env S => .nx env S
theorem es_nx : ES F W tNext sNx := fun σ H G env S hs re D P => P σ H G Ext.refl hs re
theorem es_bk : ES F W tBreak (fun env S => .bk env S) := fun σ H G env S hs re D P => P σ H G Ext.refl hs re
theorem es_ct : ES F W tCont (fun env S => .ct env S) := fun σ H G env S hs re D P => P σ H G Ext.refl hs re
def sRet (f : Fe) : Fs := fun env S => (f env S).out env fun x S' => .rt x S'
theorem es_ret (h : EV F W te f) : ES F W (tRet te) (sRet f) := fun σ H G env S hs re D P =>
  h σ H G env S hs re D.rt (P.out re fun x S' H' G' x2 hs' q v rv => q v H' G' Ext.refl hs' rv)
def sRetN : Fs := fun env S => .rt .non S
theorem es_retN : ES F W tRetN sRetN := fun σ H G env S hs re D P => P .non H G Ext.refl hs .non
def sDrop (f : Fe) : Fs := fun env S => (f env S).out env fun _ S' => .nx env S'
theorem es_drop (h : EV F W te f) : ES F W (tDrop te) (sDrop f) := fun σ H G env S hs re D P =>
  h σ H G env S hs re _ (P.out re fun x S' H' G' x2 hs' q v rv => q σ H' G' Ext.refl hs' (re.up x2))
def sIf (c : Ft) (f g : Fs) : Fs := fun env S => (c env S).out env fun b S' => if b then f env S' else g env S'
theorem es_if (h : EB F W tt c) (k1 : ES F W ts fs) (k2 : ES F W tu gs) : ES F W (tIfS tt ts tu) (sIf c fs gs) := by
  intro σ H G env S hs re D P
  refine h σ H G env S hs re _ (P.out re fun b S' H' G' x2 hs' q => ?_)
  cases b with
  | true =>
    exact iteT (k1 σ H' G' env S' hs' (re.up x2) D q)
  | false =>
    exact iteF (k2 σ H' G' env S' hs' (re.up x2) D q)
/-! ### targets -/
abbrev Fg := Vl → SEnv → Option SEnv
def EG (F : SL.Act) (g : TG) (fg : Fg) (is : List Nat) : Prop := ∀ (σ : L2.St) (H : Hp) (G : Gd) (env env' : SEnv) (S : Sto) (v : V) (d : Vl), HS F H G S → RE F.K G σ env → RV F.K G v d → fg d env = some env' → ∀ Q : L2.St → Hp → Prop,
  (∀ σ', RE F.K G σ' env' → Agr is σ σ' → Q σ' H) → g v σ H Q
def gN (i : Nat) : Fg := fun d env => if Nat.blt i env.length then some (env.set i (some d)) else none
theorem eg_name {i : Nat} : EG F (gName i) (gN i) [i] := by
  intro σ H G env env' S v d hs re r e Q q
  unfold gN at e
  split at e
  · cases e
    refine q _ (re.put i r) ⟨by rw [List.length_set], fun j n => ?_⟩
    rw [List.getElem?_set_ne]
    exact fun z => n (by rw [z]; exact List.mem_cons_self)
  · cases e
abbrev Fgs := List Vl → SEnv → Option SEnv
def EGs (F : SL.Act) (g : TGs) (fg : Fgs) (is : List Nat) : Prop := ∀ (σ : L2.St) (H : Hp) (G : Gd) (env env' : SEnv) (S : Sto) (vs : List V) (ds : List Vl), HS F H G S → RE F.K G σ env → RVs F.K G vs ds → fg ds env = some env' → ∀ Q : L2.St → Hp → Prop,
  (∀ σ', RE F.K G σ' env' → Agr is σ σ' → Q σ' H) → g vs σ H Q
def gsNil : Fgs := fun ds env => match ds with
  | [] => some env
  | _ => none
def gsCons (g : Fg) (k : Fgs) : Fgs := fun ds env => match ds with
  | d :: dr => match g d env with
    | some e1 => k dr e1
    | none => none
  | _ => none
theorem egs_nil : EGs F gNil gsNil [] := by
  intro σ H G env env' S vs ds hs re r e Q q
  unfold gsNil at e
  split at e
  · cases e
    cases r
    exact ⟨rfl, q σ re ⟨rfl, fun _ _ => rfl⟩⟩
  · cases e
theorem egs_cons {g : TG} {gs' : TGs} {fg : Fg} {k : Fgs} {is js : List Nat} (h : EG F g fg is) (hk : EGs F gs' k js) : EGs F (gCons g gs') (gsCons fg k) (is ++ js) := by
  intro σ H G env env' S vs ds hs re r e Q q
  unfold gsCons at e
  split at e
  · rename_i d dr
    split at e
    · rename_i e1 h1
      cases r with
      | cons r1 r2 => exact ⟨_, _, rfl, h σ H G env e1 S _ d hs re r1 h1 _ fun σ1 re1 a1 => hk σ1 H G e1 env' S _ dr hs re1 r2 e Q fun σ2 re2 a2 => q σ2 re2 (a1.trans a2)⟩
    · cases e
  · cases e
def gT (n : Nat) (k : Fgs) : Fg := fun d env => match d with
  | .tup ds => if Nat.beq ds.length n then k ds env else none
  | _ => none
theorem eg_tup {n : Nat} {g : TGs} {k : Fgs} {is : List Nat} (h : EGs F g k is) : EG F (gTup F.K n g) (gT n k) is := by
  intro σ H G env env' S v d hs re r e Q q
  unfold gT at e
  split at e
  · split at e
    · rename_i hn
      cases r with
      | tup h1 r1 => exact ⟨_, _, rfl, hs.gr.sqT h1, by rw [r1.length]; exact Nat.eq_of_beq_eq_true hn, h σ H G env env' S _ _ hs re r1 e Q q⟩
    · cases e
  · cases e
def sAsg (f : Fe) (g : Fg) : Fs := fun env S => (f env S).out env fun x S' => match g x env with
  | some env' => .nx env' S'
  | none => .bad
theorem es_asg {g : TG} {fg : Fg} {is : List Nat} (h : EV F W te f) (k : EG F g fg is) : ES F W (tAsg te g) (sAsg f fg) := by
  intro σ H G env S hs re D P
  refine h σ H G env S hs re _ (P.out re fun x S' H' G' x2 hs' q v rv => ?_)
  cases h1 : fg x env with
  | none =>
    rw [h1] at q
    exact q.elim
  | some env' =>
    rw [h1] at q
    exact k σ H' G' env env' S' v x hs' (re.up x2) rv h1 _ fun σ' re' _ => q σ' H' G' Ext.refl hs' re'
/-- x op= e -/
def sAug (i : Nat) (g : Vl → Vl → Sto → Rs Vl) (f : Fe) : Fs := fun env S => match env[i]? with
  | some (some x) => ((f env S).bind fun y S1 => g x y S1).out env fun z S2 => .nx (env.set i (some z)) S2
  | _ => .bad
theorem es_aug {i : Nat} {r : TIp} {g : Vl → Vl → Sto → Rs Vl} (h : EV F W te f) (hr : R2s F W r g) : ES F W (tAug i te r) (sAug i g f) := by
  intro σ H G env S hs re D P
  unfold sAug at P
  split at P
  · rename_i x hx
    obtain ⟨v, e1, rv⟩ := re.slot i x hx
    have P1 := P.out (k := kV' F fun z H2 => D.nx (σ.set i (some z)) H2) re fun z S' H' G' x2 hs' q w rw => q _ H' G' Ext.refl hs' ((re.up x2).put i rw)
    refine ⟨v, e1, h σ H G env S hs re _ (P1.bind fun y S1 H1 G1 x1 hs1 q1 w rw => ?_)⟩
    exact hr σ H1 G1 S1 v w x y hs1 (rv.up x1) rw _ q1
  · exact P.elim
end
/-! ### while -/
section
variable {F : SL.Act} {W : WX} {te ta tb : TE} {tt : TT} {tr : TA} {ts tu : TS} {f fa fb : Fe} {c : Ft} {fs gs : Fs}
def whF (c : Ft) (fs : Fs) : Nat → Fs
  | 0, _, _ => .bad
  | n + 1, env, S => (c env S).out env fun b S1 => if b then match fs env S1 with
      | .nx e S2 => whF c fs n e S2
      | .ct e S2 => whF c fs n e S2
      | .bk e S2 => .nx e S2
      | r => r
    else .nx env S1
theorem es_while {n : Nat} (hc : EB F W tt c) (hs0 : ES F W ts fs) : ES F W (tWhile tt ts) (whF c fs n) := by
  intro σ H G env S hs re D P
  refine ⟨fun m σ1 H1 => ∃ G1 env1 S1, Ext G G1 ∧ HS F H1 G1 S1 ∧ RE F.K G1 σ1 env1 ∧ PO F W G1 D (whF c fs m env1 S1), ⟨n, G, env, S, Ext.refl, hs, re, P⟩, fun m σ1 H1 hW => ?_⟩
  obtain ⟨G1, env1, S1, x1, hs1, re1, P1⟩ := hW
  cases m with
  | zero => exact P1.elim
  | succ m =>
    refine hc σ1 H1 G1 env1 S1 hs1 re1 _ (P1.out re1 fun b S2 H2 G2 x2 hs2 q => ?_)
    cases b with
    | false => exact iteF (q σ1 H2 G2 Ext.refl hs2 (re1.up x2))
    | true =>
      rw [if_pos rfl] at q
      refine iteT ⟨fun σ3 H3 => ∃ G3 env3 S3, Ext G G3 ∧ HS F H3 G3 S3 ∧ RE F.K G3 σ3 env3 ∧ PO F W G3 D (whF c fs m env3 S3), fun σ3 H3 h3 => ⟨m, Nat.lt_succ_self m, h3⟩, ?_⟩
      have x12 := x1.trans x2
      refine hs0 σ1 H2 G2 env1 S2 hs2 (re1.up x2) _ ?_
      cases h2 : fs env1 S2 with
      | nx e S3 => rw [h2] at q; exact fun σ' H' G' x3 hs' re' => ⟨G', e, S3, x12.trans x3, hs', re', PO.ext (F := F) x3 q⟩
      | ct e S3 => rw [h2] at q; exact fun σ' H' G' x3 hs' re' => ⟨G', e, S3, x12.trans x3, hs', re', PO.ext (F := F) x3 q⟩
      | bk e S3 => rw [h2] at q; exact q
      | rt d S3 => rw [h2] at q; exact q
      | ex e env' S3 => rw [h2] at q; exact q
      | bad => rw [h2] at q; exact q
/-! ### what a for walks -/
inductive Src where
  | fix (ds : List Vl) | st (n : Nat)
inductive Nx where
  | item (d : Vl) | stop | bad
def Src.nxt (s : Src) (i : Nat) (S : Sto) : Nx := match s with
  | .fix ds => match ds[i]? with
    | some d => .item d
    | none => if Nat.beq i ds.length then .stop else .bad
  | .st n => match S[n]? with
    | some (.lst ds) => match ds[i]? with
      | some d => .item d
      | none => .stop
    | _ => .bad
/-- J walks what s tells -/
def IsSrc (F : SL.Act) (G0 : Gd) (J : It) (s : Src) : Prop :=
  ∀ (i : Nat) (G : Gd) (H : Hp) (S : Sto), Ext G0 G → HS F H G S →
    (s.nxt i S = .stop → J.stop i H) ∧ ∀ d, s.nxt i S = .item d → J.go i H ∧ ∀ x H', J.yld i H x H' → ∃ G', Ext G G' ∧ HS F H' G' S ∧ RV F.K G' x d
abbrev Fi := SEnv → Sto → Rs Src
def EI (F : SL.Act) (W : WX) (wi : TI) (fi : Fi) : Prop := ∀ (σ : L2.St) (H : Hp) (G : Gd) (env : SEnv) (S : Sto), HS F H G S → RE F.K G σ env →
  ∀ R : It → Hp → Prop, PG F W σ G (fun s H' G' => ∀ J, IsSrc F G' J s → R J H') (fi env S) → wi σ H R
def forS (s : Src) (fg : Fg) (fs : Fs) : Nat → Nat → Fs
  | 0, _, _, _ => .bad
  | m + 1, i, env, S => match s.nxt i S with
    | .bad => .bad
    | .stop => .nx env S
    | .item d => match fg d env with
      | none => .bad
      | some e1 => match fs e1 S with
        | .nx e S2 => forS s fg fs m (i + 1) e S2
        | .ct e S2 => forS s fg fs m (i + 1) e S2
        | .bk e S2 => .nx e S2
        | r => r
def sFor (fi : Fi) (fg : Fg) (fs : Fs) : Fs := fun env S => (fi env S).out env fun s S1 => forS s fg fs 1000000 0 env S1
theorem es_for {wi : TI} {g : TG} {fi : Fi} {fg : Fg} {is : List Nat} (hi : EI F W wi fi) (hg : EG F g fg is) (hs0 : ES F W ts fs) : ES F W (tFor wi g ts) (sFor fi fg fs) := by
  intro σ H G env S hs re D P
  refine hi σ H G env S hs re _ (P.out re fun s S0 H0 G0 x0 hsa P0 J hJ => ?_)
  refine ⟨fun i m σ1 H1 => ∃ G1 env1 S1, Ext G0 G1 ∧ HS F H1 G1 S1 ∧ RE F.K G1 σ1 env1 ∧ PO F W G1 D (forS s fg fs m i env1 S1), ⟨_, G0, env, S0, Ext.refl, hsa, re.up x0, P0⟩, fun i m σ1 H1 hW => ?_⟩
  obtain ⟨G1, env1, S1, x1, hs1, re1, P1⟩ := hW
  cases m with
  | zero => exact P1.elim
  | succ m =>
    obtain ⟨j1, j2⟩ := hJ i G1 H1 S1 x1 hs1
    simp only [forS] at P1
    cases hn : s.nxt i S1 with
    | bad => rw [hn] at P1; exact P1.elim
    | stop => rw [hn] at P1; exact .inl ⟨j1 hn, P1 σ1 H1 G1 Ext.refl hs1 re1⟩
    | item d =>
      rw [hn] at P1
      dsimp only at P1
      obtain ⟨k1, k2⟩ := j2 d hn
      refine .inr ⟨k1, fun σ3 H3 => ∃ G3 env3 S3, Ext G0 G3 ∧ HS F H3 G3 S3 ∧ RE F.K G3 σ3 env3 ∧ PO F W G3 D (forS s fg fs m (i + 1) env3 S3), fun σ3 H3 h3 => ⟨m, Nat.lt_succ_self m, h3⟩, fun x H2 hy => ?_⟩
      obtain ⟨G2, x2, hs2, rv⟩ := k2 x H2 hy
      cases h2 : fg d env1 with
      | none => rw [h2] at P1; exact P1.elim
      | some e1 =>
        rw [h2] at P1
        dsimp only at P1
        have P2 := PO.ext (F := F) x2 P1
        refine hg σ1 H2 G2 env1 e1 S1 x d hs2 (re1.up x2) rv h2 _ fun σ2 re2 _ => ?_
        refine hs0 σ2 H2 G2 e1 S1 hs2 re2 _ ?_
        have x12 := x1.trans x2
        cases h3 : fs e1 S1 with
        | nx e S3 => rw [h3] at P2; exact fun σ' H' G' x3 hs' re' => ⟨G', e, S3, x12.trans x3, hs', re', PO.ext (F := F) x3 P2⟩
        | ct e S3 => rw [h3] at P2; exact fun σ' H' G' x3 hs' re' => ⟨G', e, S3, x12.trans x3, hs', re', PO.ext (F := F) x3 P2⟩
        | bk e S3 => rw [h3] at P2; exact P2
        | rt d S3 => rw [h3] at P2; exact P2
        | ex e env' S3 => rw [h3] at P2; exact P2
        | bad => rw [h3] at P2; exact P2
end
end SL
set_option Elab.async false
set_option linter.all false
set_option maxRecDepth 100000
/-! SL5: operators of the data layer taken up, lists of the store, fields stored -/
namespace SL
open PySem PySem.Spec PyProof.Rows L2 DL
/-! ### plain data -/
mutual
def toDt : Vl → Option Dt
  | .non => some .non
  | .bl b => some (.bl b)
  | .int i => some (.int i)
  | .str s => some (.str s)
  | .tup xs => match toDts xs with
    | some ds => some (.tup ds)
    | none => none
  | .fz xs => match toDts xs with
    | some ds => some (.lst ds)
    | none => none
  | .ref _ => none
  | .glo _ => none
def toDts : List Vl → Option (List Dt)
  | [] => some []
  | x :: xs => match toDt x with
    | some d => match toDts xs with
      | some ds => some (d :: ds)
      | none => none
    | none => none
end
mutual
def ofDt : Dt → Option Vl
  | .non => some .non
  | .bl b => some (.bl b)
  | .int i => some (.int i)
  | .str s => some (.str s)
  | .tup xs => match ofDts xs with
    | some ds => some (.tup ds)
    | none => none
  | .lst xs => match ofDts xs with
    | some ds => some (.fz ds)
    | none => none
def ofDts : List Dt → Option (List Vl)
  | [] => some []
  | x :: xs => match ofDt x with
    | some d => match ofDts xs with
      | some ds => some (d :: ds)
      | none => none
    | none => none
end
section
variable {K : PySem.W.Frag} {G : Gd}
mutual
theorem toDt_ok : ∀ {x : Vl} {d : Dt} {v : V}, toDt x = some d → RV K G v x → Rp K G.b v d
  | .non, d, v, e, r => by cases e; cases r; exact .non
  | .bl b, d, v, e, r => by cases e; cases r; exact .bl b
  | .int b, d, v, e, r => by cases e; cases r; exact .int b
  | .str b, d, v, e, r => by cases e; cases r; exact .str b
  | .tup xs, d, v, e, r => by
    unfold toDt at e
    split at e
    · rename_i ds h
      cases e
      cases r with
      | tup h1 h2 => exact .tup h1 (toDts_ok h h2)
    · cases e
  | .fz xs, d, v, e, r => by
    unfold toDt at e
    split at e
    · rename_i ds h
      cases e
      cases r with
      | fz h1 h2 => exact .lst h1 (toDts_ok h h2)
    · cases e
  | .ref n, d, v, e, r => by cases e
  | .glo n, d, v, e, r => by cases e
theorem toDts_ok : ∀ {xs : List Vl} {ds : List Dt} {vs : List V}, toDts xs = some ds → RVs K G vs xs → Rps K G.b vs ds
  | [], ds, vs, e, r => by cases e; cases r; exact .nil
  | x :: xs, ds, vs, e, r => by
    unfold toDts at e
    split at e
    · rename_i d h
      split at e
      · rename_i ds' h'
        cases e
        cases r with
        | cons h1 h2 => exact .cons (toDt_ok h h1) (toDts_ok h' h2)
      · cases e
    · cases e
end
mutual
theorem ofDt_ok : ∀ {d : Dt} {x : Vl} {v : V}, ofDt d = some x → Rp K G.b v d → RV K G v x
  | .non, d, v, e, r => by cases e; cases r; exact .non
  | .bl b, d, v, e, r => by cases e; cases r; exact .bl b
  | .int b, d, v, e, r => by cases e; cases r; exact .int b
  | .str b, d, v, e, r => by cases e; cases r; exact .str b
  | .tup xs, d, v, e, r => by
    unfold ofDt at e
    split at e
    · rename_i ds h
      cases e
      cases r with
      | tup h1 h2 => exact .tup h1 (ofDts_ok h h2)
    · cases e
  | .lst xs, d, v, e, r => by
    unfold ofDt at e
    split at e
    · rename_i ds h
      cases e
      cases r with
      | lst h1 h2 => exact .fz h1 (ofDts_ok h h2)
    · cases e
theorem ofDts_ok : ∀ {ds : List Dt} {xs : List Vl} {vs : List V}, ofDts ds = some xs → Rps K G.b vs ds → RVs K G vs xs
  | [], ds, vs, e, r => by cases e; cases r; exact .nil
  | x :: xs, ds, vs, e, r => by
    unfold ofDts at e
    split at e
    · rename_i d h
      split at e
      · rename_i ds' h'
        cases e
        cases r with
        | cons h1 h2 => exact .cons (ofDt_ok h h1) (ofDts_ok h' h2)
      · cases e
    · cases e
end
end
/-! ### data below lists of the store, as they stand -/
def noT (H : Hp) : Hp := fun a => match H a with
  | some (.tbl _) => none
  | o => o
theorem noT_gr (H : Hp) : Gr (noT H) H := fun a o e => by
  unfold noT at e
  split at e
  · cases e
  · exact e
theorem noT_tbl (H : Hp) (a : Addr) (ps : Array Value) : noT H a ≠ some (.tbl ps) := fun e => by
  unfold noT at e
  split at e
  · cases e
  · rename_i h
    exact h ps e
theorem noT_at {H : Hp} {a : Addr} {o : HO} (e : H a = some o) (n : ∀ ps, o ≠ .tbl ps) : noT H a = some o := by
  unfold noT
  split
  · rename_i ps h
    rw [e] at h
    exact absurd (Option.some.inj h) (n ps)
  · exact e
mutual
def snap (S : Sto) : Nat → Vl → Option Dt
  | 0, _ => none
  | _ + 1, .non => some .non
  | _ + 1, .bl b => some (.bl b)
  | _ + 1, .int i => some (.int i)
  | _ + 1, .str s => some (.str s)
  | n + 1, .tup xs => match snaps S n xs with
    | some ds => some (.tup ds)
    | none => none
  | n + 1, .fz xs => match snaps S n xs with
    | some ds => some (.lst ds)
    | none => none
  | n + 1, .ref k => match S[k]? with
    | some (.lst xs) => match snaps S n xs with
      | some ds => some (.lst ds)
      | none => none
    | _ => none
  | _ + 1, .glo _ => none
def snaps (S : Sto) : Nat → List Vl → Option (List Dt)
  | 0, _ => none
  | _ + 1, [] => some []
  | n + 1, x :: xs => match snap S n x with
    | some d => match snaps S n xs with
      | some ds => some (d :: ds)
      | none => none
    | none => none
end
section
variable {F : SL.Act} {H : Hp} {G : Gd} {S : Sto}
theorem snap_both (hs : HS F H G S) : ∀ n : Nat, (∀ (x : Vl) (d : Dt) (v : V), snap S n x = some d → RV F.K G v x → Rp F.K (noT H) v d) ∧ (∀ (xs : List Vl) (ds : List Dt) (vs : List V), snaps S n xs = some ds → RVs F.K G vs xs → Rps F.K (noT H) vs ds)
  | 0 => ⟨fun x d v e => by simp [snap] at e, fun xs ds vs e => by simp [snaps] at e⟩
  | n + 1 => by
    have ih := snap_both hs n
    have gT : Gr G.b (noT H) := fun a o e => noT_at (hs.gr a o e) fun ps z => hs.nt a ps (by rw [e, z])
    refine ⟨fun x d v e r => ?_, fun xs ds vs e r => ?_⟩
    · cases x with
      | non => cases e; cases r; exact .non
      | bl b => cases e; cases r; exact .bl b
      | int b => cases e; cases r; exact .int b
      | str b => cases e; cases r; exact .str b
      | tup xs =>
        simp only [snap] at e
        split at e
        · rename_i ds h
          cases e
          cases r with
          | tup h1 h2 => exact .tup (gT.sqT h1) (ih.2 _ _ _ h h2)
        · cases e
      | fz xs =>
        simp only [snap] at e
        split at e
        · rename_i ds h
          cases e
          cases r with
          | fz h1 h2 => exact .lst (gT.sqL h1) (ih.2 _ _ _ h h2)
        · cases e
      | ref k =>
        simp only [snap] at e
        split at e
        · rename_i xs hk
          split at e
          · rename_i ds h
            cases e
            cases r with
            | ref ea =>
              obtain ⟨a, u, e1, e2, e3⟩ := hs.obj k _ hk
              rw [ea] at e1
              cases e1
              cases e3 with
              | lst r3 => exact .lst (.inl (.inl (noT_at e2 (fun ps z => by cases z)))) (ih.2 _ _ _ h r3)
          · cases e
        · cases e
      | glo x => cases e
    · cases xs with
      | nil =>
        simp only [snaps] at e
        cases e
        cases r
        exact .nil
      | cons x xs =>
        simp only [snaps] at e
        split at e
        · rename_i d h
          split at e
          · rename_i ds' h'
            cases e
            cases r with
            | cons h1 h2 => exact .cons (ih.1 _ _ _ h h1) (ih.2 _ _ _ h' h2)
          · cases e
        · cases e
/-- a step over such a snapshot is one over what never changes -/
theorem stp_snap {B' H' : Hp} (hs : HS F H G S) (t : Stp (fun _ => False) (noT H) H B' H') : Stp (fun _ => False) G.b H G.b H' ∧ Gr G.b H' := by
  refine ⟨⟨Gr.refl, fun _ e _ _ => e, t.hh, t.th, t.tb, fun _ _ e => e⟩, fun a o e => t.hh a o (hs.gr a o e) (fun ps z => hs.nt a ps (by rw [e, z])) fun z => z⟩
end
/-! ### what the layer below gives, in the store -/
def upR (r : Option Ow) (S : Sto) : Rs Vl := match r with
  | some (.sh d) => match ofDt d with
    | some x => .ok x S
    | none => .bad
  | some (.lst ds) => match ofDts ds with
    | some xs => .ok (.ref S.length) (S ++ [.lst xs])
    | none => .bad
  | none => .bad
def scD : Dt → Bool
  | .lst _ => false
  | .tup _ => false
  | _ => true
def upS (r : Option Ow) (S : Sto) : Rs Vl := match r with
  | some (.sh d) => if scD d then match ofDt d with
      | some x => .ok x S
      | none => .bad
    else .bad
  | _ => .bad
section
variable {F : SL.Act} {W : WX} {H : Hp} {G : Gd} {S : Sto} {σ : L2.St}
theorem upR_ok {Q : VK} {r : Option Ow} {o : Ow} (hs : HS F H G S) (e : r = some o) (q : PG F W σ G (kV' F Q) (upR r S)) (F' : DL.Act) (hF : F'.K = F.K) (z : V) (H' B' : Hp) (t : Stp (fun _ => False) G.b H B' H') (g : Gr B' H') (w : DL.WOk F' H H' B' z o) : Q z H' := by
  subst e
  obtain ⟨hs1, x1⟩ := hs.stp t g
  cases o with
  | sh d =>
    simp only [upR] at q
    split at q
    · rename_i x hx
      have w' : Rp F'.K B' z d := w
      rw [hF] at w'
      exact q H' _ x1 hs1 z (ofDt_ok hx w')
    · exact q.elim
  | lst ds =>
    simp only [upR] at q
    split at q
    · rename_i xs hx
      obtain ⟨l, vs, rfl, h2, h3, h4, h5⟩ := w
      rw [hF] at h5
      have hl : ∀ n : Nat, (⟨B', G.m⟩ : Gd).m[n]? ≠ some l := (hs.fresh h3).1
      obtain ⟨hs2, x2, l2⟩ := hs1.new hl h2 h4 (RO.lst (ofDts_ok (G := ⟨B', G.m⟩) hx h5))
      exact q H' _ (x1.trans x2) hs2 _ (.ref l2)
    · exact q.elim
theorem upS_ok {Q : VK} {r : Option Ow} {o : Ow} (hs : HS F H G S) (e : r = some o) (q : PG F W σ G (kV' F Q) (upS r S)) (F' : DL.Act) (z : V) (H' B' : Hp) (t : Stp (fun _ => False) (noT H) H B' H') (w : DL.WOk F' H H' B' z o) : Q z H' := by
  subst e
  obtain ⟨t1, g1⟩ := stp_snap hs t
  obtain ⟨hs1, x1⟩ := hs.stp t1 g1
  cases o with
  | sh d =>
    simp only [upS] at q
    split at q
    · rename_i hd
      split at q
      · rename_i x hx
        have w' : Rp F'.K B' z d := w
        refine q H' _ x1 hs1 z ?_
        cases d with
        | non => cases hx; cases w'; exact .non
        | bl b => cases hx; cases w'; exact .bl b
        | int b => cases hx; cases w'; exact .int b
        | str b => cases hx; cases w'; exact .str b
        | tup ds => cases hd
        | lst ds => cases hd
      · exact q.elim
    · exact q.elim
  | lst ds => exact q.elim
def lift2 (g : Dt → Dt → Option Ow) (x y : Vl) (S : Sto) : Rs Vl := match toDt x, toDt y with
  | some a, some b => upR (g a b) S
  | _, _ => match snap S 60 x, snap S 60 y with
    | some a, some b => upS (g a b) S
    | _, _ => .bad
theorem r2_lift {r : R2} {g : Dt → Dt → Option Ow} (h : ∀ F' : DL.Act, F'.K = F.K → RD2 F' r g) : R2s F W r (lift2 g) := by
  intro σ H G S v w x y hs rx ry Q q
  have hF := h ⟨F.K, G.b, H, fun _ => False⟩ rfl
  unfold lift2 at q
  split at q
  · rename_i a b ha hb
    cases e : g a b with
    | none => rw [e] at q; exact q.elim
    | some o => exact hF H G.b v w a b o hs.gr (toDt_ok ha rx) (toDt_ok hb ry) e Q fun z H' B' t g' w' => upR_ok hs e q _ rfl z H' B' t g' w'
  · split at q
    · rename_i a b ha hb
      cases e : g a b with
      | none => rw [e] at q; exact q.elim
      | some o => exact hF H (noT H) v w a b o (noT_gr H) ((snap_both hs 60).1 _ _ _ ha rx) ((snap_both hs 60).1 _ _ _ hb ry) e Q fun z H' B' t g' w' => upS_ok hs e q _ z H' B' t w'
    · exact q.elim
def lift1 (g : Dt → Option Ow) (x : Vl) (S : Sto) : Rs Vl := match toDt x with
  | some a => upR (g a) S
  | none => .bad
theorem r1_lift {r : V → Hp → VK → Prop} {g : Dt → Option Ow} (h : ∀ F' : DL.Act, F'.K = F.K → RD1 F' r g) : R1s F W r (lift1 g) := by
  intro σ H G S v x hs rx Q q
  have hF := h ⟨F.K, G.b, H, fun _ => False⟩ rfl
  unfold lift1 at q
  split at q
  · rename_i a ha
    cases e : g a with
    | none => rw [e] at q; exact q.elim
    | some o => exact hF H G.b v a o hs.gr (toDt_ok ha rx) e Q fun z H' B' t g' w' => upR_ok hs e q _ rfl z H' B' t g' w'
  · exact q.elim
/-- built-in functions: of plain data, or of lists of the store as they stand -/
def liftC (g : List Dt → Option Ow) (xs : List Vl) (S : Sto) : Rs Vl := match toDts xs with
  | some ds => upR (g ds) S
  | none => match snaps S 60 xs with
    | some ds => upS (g ds) S
    | none => .bad
theorem rc_lift {r : List V → Hp → VK → Prop} {g : List Dt → Option Ow} (h : ∀ F' : DL.Act, F'.K = F.K → RC F' r g) : RCs F W r (liftC g) := by
  intro σ H G S vs xs hs rx Q q
  have hF := h ⟨F.K, G.b, H, fun _ => False⟩ rfl
  unfold liftC at q
  split at q
  · rename_i ds ha
    cases e : g ds with
    | none => rw [e] at q; exact q.elim
    | some o => exact hF H G.b vs ds o hs.gr (toDts_ok ha rx) e Q fun z H' B' t g' w' => upR_ok hs e q _ rfl z H' B' t g' w'
  · split at q
    · rename_i ds ha
      cases e : g ds with
      | none => rw [e] at q; exact q.elim
      | some o => exact hF H (noT H) vs ds o (noT_gr H) ((snap_both hs 60).2 _ _ _ ha rx) e Q fun z H' B' t g' w' => upS_ok hs e q _ z H' B' t w'
    · exact q.elim
/-! ### x[i] -/
def gIx (x y : Vl) (S : Sto) : Rs Vl := match y with
  | .int i => match x with
    | .tup ds => match atN ds.length i with
      | some j => match ds[j]? with
        | some d => .ok d S
        | none => .bad
      | none => .bad
    | .fz ds => match atN ds.length i with
      | some j => match ds[j]? with
        | some d => .ok d S
        | none => .bad
      | none => .bad
    | .ref n => match S[n]? with
      | some (.lst ds) => match atN ds.length i with
        | some j => match ds[j]? with
          | some d => .ok d S
          | none => .bad
        | none => .bad
      | _ => .bad
    | .str s => upR (DL.gIx (.str s) (.int i)) S
    | _ => .bad
  | _ => .bad
theorem at_rvs {K : PySem.W.Frag} {vs : List V} {ds : List Vl} {i : Int} {j : Nat} {d : Vl} (r : RVs K G vs ds) (h1 : atN ds.length i = some j) (h2 : ds[j]? = some d) : ∃ v, atI vs i = some v ∧ RV K G v d := by
  obtain ⟨v, h3, h4⟩ := r.get h2
  refine ⟨v, ?_, h4⟩
  unfold atI
  rw [r.length, atN_ix, h1]
  exact h3
theorem HS.lst (hs : HS F H G S) {v : V} {n : Nat} {xs : List Vl} (r : RV F.K G v (.ref n)) (e : S[n]? = some (.lst xs)) : ∃ a vs, v = .ref a ∧ G.m[n]? = some a ∧ H a = some (.lst vs) ∧ RVs F.K G vs xs := by
  cases r with
  | ref ea =>
    rename_i a
    obtain ⟨b, u, e1, e2, e3⟩ := hs.obj n _ e
    rw [ea] at e1
    cases e1
    cases e3 with
    | lst h => exact ⟨a, _, rfl, ea, e2, h⟩
theorem r2_ix : R2s F W (rIx F.K) gIx := by
  intro σ H G S v w x y hs rx ry Q q
  unfold gIx at q
  split at q
  · rename_i i
    cases ry
    split at q
    · rename_i ds
      split at q
      · rename_i j hj
        split at q
        · rename_i d hd
          cases rx with
          | tup h1 r1 =>
            obtain ⟨z, e1, e2⟩ := at_rvs r1 hj hd
            exact .inr (.inl ⟨_, _, i, z, rfl, rfl, hs.gr.sqT h1, e1, q H G Ext.refl hs z e2⟩)
        · exact q.elim
      · exact q.elim
    · rename_i ds
      split at q
      · rename_i j hj
        split at q
        · rename_i d hd
          cases rx with
          | fz h1 r1 =>
            obtain ⟨z, e1, e2⟩ := at_rvs r1 hj hd
            exact .inl ⟨_, _, i, z, rfl, rfl, hs.gr.sqL h1, e1, q H G Ext.refl hs z e2⟩
        · exact q.elim
      · exact q.elim
    · rename_i n
      split at q
      · rename_i ds hn
        split at q
        · rename_i j hj
          split at q
          · rename_i d hd
            obtain ⟨a, vs, rfl, ea, eh, r1⟩ := hs.lst rx hn
            obtain ⟨z, e1, e2⟩ := at_rvs r1 hj hd
            exact .inl ⟨_, _, i, z, rfl, rfl, .inl (.inl eh), e1, q H G Ext.refl hs z e2⟩
          · exact q.elim
        · exact q.elim
      · exact q.elim
    · rename_i s
      have hF : RD2 ⟨F.K, G.b, H, fun _ => False⟩ (rIx F.K) DL.gIx := rd_ix
      cases e : DL.gIx (.str s) (.int i) with
      | none => rw [e] at q; exact q.elim
      | some o =>
        have rx' : Rp F.K G.b v (.str s) := by cases rx; exact .str s
        exact hF H G.b v _ (.str s) (.int i) o hs.gr rx' (.int i) e Q fun z H' B' t g' w' => upR_ok hs e q _ rfl z H' B' t g' w'
    · exact q.elim
  · exact q.elim
/-! ### len -/
def gLen (xs : List Vl) (S : Sto) : Rs Vl := match xs with
  | [.ref n] => match S[n]? with
    | some (.lst ds) => .ok (.int (ds.length : Nat)) S
    | _ => .bad
  | [.tup ds] => .ok (.int (ds.length : Nat)) S
  | [.fz ds] => .ok (.int (ds.length : Nat)) S
  | [.str s] => if Nat.ble s.length 16777216 then .ok (.int (s.length : Nat)) S else .bad
  | _ => .bad
theorem RVs.one {K : PySem.W.Frag} {vs : List V} {x : Vl} (r : RVs K G vs [x]) : ∃ v, vs = [v] ∧ RV K G v x := by
  cases r with
  | cons h1 h2 => cases h2; exact ⟨_, rfl, h1⟩
theorem rc_len : RCs F W (rLen1 F.K) gLen := by
  intro σ H G S vs xs hs r Q q
  unfold gLen at q
  split at q
  · rename_i n
    obtain ⟨v, rfl, rv⟩ := r.one
    split at q
    · rename_i ds hn
      obtain ⟨a, ws, rfl, ea, eh, r1⟩ := hs.lst rv hn
      refine ⟨_, ws.length, rfl, .inl ⟨ws, .inl (.inl eh), rfl⟩, ?_⟩
      rw [r1.length]
      exact q H G Ext.refl hs _ (.int _)
    · exact q.elim
  · rename_i ds
    obtain ⟨v, rfl, rv⟩ := r.one
    cases rv with
    | tup h1 r1 =>
      rename_i a ws
      refine ⟨_, ws.length, rfl, .inr ⟨ws, hs.gr.sqT h1, rfl⟩, ?_⟩
      rw [r1.length]
      exact q H G Ext.refl hs _ (.int _)
  · rename_i ds
    obtain ⟨v, rfl, rv⟩ := r.one
    cases rv with
    | fz h1 r1 =>
      rename_i a ws
      refine ⟨_, ws.length, rfl, .inl ⟨ws, hs.gr.sqL h1, rfl⟩, ?_⟩
      rw [r1.length]
      exact q H G Ext.refl hs _ (.int _)
  · rename_i s
    obtain ⟨v, rfl, rv⟩ := r.one
    split at q
    · rename_i hz
      cases rv
      refine ⟨_, s.length, rfl, ⟨by rw [str_len]; exact szl hz, (str_len s).symm⟩, ?_⟩
      exact q H G Ext.refl hs _ (.int _)
    · exact q.elim
  · exact q.elim
end
end SL
set_option Elab.async false
set_option linter.all false
set_option maxRecDepth 100000
/-! SL6: a def keeps the promise of its meaning; methods of lists; fields stored -/
namespace SL
open PySem PySem.Spec PyProof.Rows L2 DL
/-! ### the meaning of a def -/
def entS (n : Nat) (xs : List Vl) : SEnv := xs.map some ++ List.replicate (n - xs.length) none
def runS (body : Fs) (env : SEnv) (S : Sto) : Rs Vl := match body env S with
  | .rt x S' => .ok x S'
  | .nx _ S' => .ok .non S'
  | .ex e _ S' => .ex e S'
  | _ => .bad
def defS (np n : Nat) (body : Fs) : Fn := fun xs S => if Nat.beq xs.length np then runS body (entS n xs) S else .bad
theorem re_start {K : PySem.W.Frag} {G : Gd} {N : List Str} {vs : List V} {xs : List Vl} (r : RVs K G vs xs) : RE K G (L2.start N vs) (entS N.length xs) := by
  have hl := r.length
  refine ⟨?_, fun i d e => ?_⟩
  · unfold L2.start entS
    simp [hl]
  · unfold entS at e
    by_cases hi : i < xs.length
    · rw [List.getElem?_append_left (by simpa using hi), List.getElem?_map, List.getElem?_eq_getElem hi] at e
      simp only [Option.map_some, Option.some.injEq] at e
      obtain ⟨v, k1, k2⟩ := r.get (List.getElem?_eq_getElem hi)
      refine ⟨v, ?_, by rw [← e]; exact k2⟩
      unfold L2.start
      rw [List.getElem?_append_left (by simpa [hl] using hi), List.getElem?_map, k1]
      rfl
    · rw [List.getElem?_append_right (by simpa using Nat.le_of_not_lt hi)] at e
      have := List.mem_of_getElem? e
      rw [List.mem_replicate] at this
      cases this.2
section
variable {P : Program} {w : World} {K : PySem.W.Frag} {mg : Str → Option Value} {base : Heap}
theorem fun_okX {x qual : Str} {st : Stmt} {f : Addr} {fd : FuncData} {N ps : List Str} {k : Nat} {sp : Sp} (F : L2.Fun K x qual st f fd) (S : FnScope N ps (defScope st)) (len : ∀ vs H Q E, sp vs H Q E → vs.length = ps.length)
    (hbody : ∀ (A : Around) (outer : List Env) (s : Shared) (H : Hp) (vs : List V) (Q : VK) (E : XK), Room k (A.deeper (envOfC qual (defScope st) s.heap.objs.size f fd.code)) → sp vs H Q E →
      ∃ t, PSs (cxOf (L2.CX P w) P w K mg base N qual (defScope st) f fd.code A outer s H E) (defBody st) t ∧ t { nx := fun _ H' => Q .non H', rt := Q } (L2.start N vs) H) : FnOk P w K mg base (L2.CX P w) (k + 1) f fd ps sp := by
  obtain ⟨oc, od, kV, doc, pm, an, cdv, ct, osl, rfl, lk, hcd⟩ := F.ex
  exact fn_of lk hcd S len fun A outer s H vs Q E hr hsp => hbody A outer s H vs Q E hr hsp
/-- a def keeps the promise of its meaning -/
theorem fn_sl {x qual : Str} {st : Stmt} {f : Addr} {fd : FuncData} {N ps : List Str} {k : Nat} (F : L2.Fun K x qual st f fd) (S : FnScope N ps (defScope st)) (T : List Addr) (body : Fs) {n np : Nat} (hn : N.length = n) (hnp : ps.length = np)
    (hb : ∀ (A : Around) (outer : List Env) (s : Shared) (H : Hp) (E : XK), Room k (A.deeper (envOfC qual (defScope st) s.heap.objs.size f fd.code)) →
      ∃ ts, PSs (cxOf (L2.CX P w) P w K mg base N qual (defScope st) f fd.code A outer s H E) (defBody st) ts ∧ ES ⟨K, T⟩ (fun c d _ H' => E c d H') ts body) :
    FnOk P w K mg base (L2.CX P w) (k + 1) f fd ps (spS ⟨K, T⟩ (defS np n body)) := by
  refine fun_okX F S (fun vs H Q E h => ?_) fun A outer s H vs Q E hr h => ?_
  · obtain ⟨G, xs, S0, hs, r, q⟩ := h
    rw [r.length, hnp]
    unfold defS at q
    split at q
    · rename_i hl
      exact Nat.eq_of_beq_eq_true hl
    · exact q.elim
  · obtain ⟨G, xs, S0, hs, r, q⟩ := h
    obtain ⟨ts, h1, h2⟩ := hb A outer s H E hr
    refine ⟨ts, h1, ?_⟩
    unfold defS at q
    split at q
    · have re := re_start (N := N) r
      rw [hn] at re
      refine h2 _ H G _ S0 hs re _ ?_
      unfold runS at q
      cases ho : body (entS n xs) S0 with
      | nx e S' =>
        rw [ho] at q
        exact fun σ' H' G' x hs' re' => q H' G' x hs' _ .non
      | rt d S' =>
        rw [ho] at q
        exact fun v H' G' x hs' rv => q H' G' x hs' v rv
      | ex e env' S' =>
        rw [ho] at q
        exact fun c d σ' H' G' x hs' re' rx => q c d H' G' x hs' rx
      | bk e S' => rw [ho] at q; exact q.elim
      | ct e S' => rw [ho] at q; exact q.elim
      | bad => rw [ho] at q; exact q.elim
    · exact q.elim
end
/-! ### methods of built-in types -/
section
variable {F : SL.Act} {W : WX} {te ta tb : TE} {tr : TA} {f fa fb : Fe}
def TyC (F : SL.Act) (T : String) (chk : Vl → Sto → Bool) : Prop := ∀ (H : Hp) (G : Gd) (S : Sto) (v : V) (x : Vl), HS F H G S → RV F.K G v x → chk x S = true → tyV F.K T v H
def RMs (F : SL.Act) (W : WX) (r : V → List V → Hp → VK → Prop) (g : Vl → List Vl → Sto → Rs Vl) : Prop := ∀ (σ : L2.St) (H : Hp) (G : Gd) (S : Sto) (v : V) (x : Vl) (vs : List V) (xs : List Vl), HS F H G S → RV F.K G v x → RVs F.K G vs xs → ∀ Q : VK, PG F W σ G (kV' F Q) (g x xs S) → r v vs H Q
def fBM (chk : Vl → Sto → Bool) (g : Vl → List Vl → Sto → Rs Vl) (fa : Fe) (ga : Fa) : Fe := fun env S => (fa env S).bind fun x S1 => if chk x S1 then (ga env S1).bind fun xs S2 => g x xs S2 else .bad
theorem ev_bm {T : String} {chk : Vl → Sto → Bool} {r : V → List V → Hp → VK → Prop} {g : Vl → List Vl → Sto → Rs Vl} {ga : Fa} (hc : TyC F T chk) (ha : EV F W ta fa) (hg : EA F W tr ga) (hr : RMs F W r g) : EV F W (tBM F.K T r ta tr) (fBM chk g fa ga) := by
  intro σ H G env S hs re Q q
  refine ha σ H G env S hs re _ (q.bind fun x S1 H1 G1 x1 hs1 q1 v rv => ?_)
  split at q1
  · rename_i hk
    refine ⟨hc H1 G1 S1 v x hs1 rv hk, ?_⟩
    refine hg σ H1 G1 env S1 hs1 (re.up x1) _ (q1.bind fun xs S2 H2 G2 x2 hs2 q2 vs rvs => ?_)
    exact hr σ H2 G2 S2 v x vs xs hs2 (rv.up x2) rvs Q q2
  · exact q1.elim
def fBM0 (chk : Vl → Sto → Bool) (g : Vl → List Vl → Sto → Rs Vl) (fa : Fe) : Fe := fun env S => (fa env S).bind fun x S1 => if chk x S1 then g x [] S1 else .bad
theorem ev_bm0 {T : String} {chk : Vl → Sto → Bool} {r : V → List V → Hp → VK → Prop} {g : Vl → List Vl → Sto → Rs Vl} (hc : TyC F T chk) (ha : EV F W ta fa) (hr : RMs F W r g) : EV F W (tBM0 F.K T r ta) (fBM0 chk g fa) := by
  intro σ H G env S hs re Q q
  refine ha σ H G env S hs re _ (q.bind fun x S1 H1 G1 x1 hs1 q1 v rv => ?_)
  split at q1
  · rename_i hk
    exact ⟨hc H1 G1 S1 v x hs1 rv hk, hr σ H1 G1 S1 v x [] [] hs1 rv .nil Q q1⟩
  · exact q1.elim
def isL (x : Vl) (S : Sto) : Bool := match x with
  | .ref n => match S[n]? with
    | some (.lst _) => true
    | _ => false
  | _ => false
def isT (x : Vl) (_ : Sto) : Bool := match x with
  | .str _ => true
  | _ => false
theorem ty_list : TyC F "list" isL := by
  intro H G S v x hs r h
  unfold isL at h
  split at h
  · split at h
    · rename_i n xs e
      obtain ⟨a, vs, rfl, ea, eh, r1⟩ := hs.lst r e
      exact .inl ⟨rfl, vs, .inl (.inl eh)⟩
    · cases h
  · cases h
theorem ty_str : TyC F "str" isT := by
  intro H G S v x hs r h
  unfold isT at h
  split at h
  · cases r
    rfl
  · cases h
def mAppend : Vl → List Vl → Sto → Rs Vl := fun x xs S => match x, xs with
  | .ref n, [y] => match S[n]? with
    | some (.lst ds) => if Nat.blt ds.length 16777216 then .ok .non (S.set n (.lst (ds ++ [y]))) else .bad
    | _ => .bad
  | _, _ => .bad
theorem rm_append : RMs F W rAppend mAppend := by
  intro σ H G S v x vs xs hs rx rs Q q
  unfold mAppend at q
  split at q
  · rename_i n y
    split at q
    · rename_i ds e
      split at q
      · rename_i hz
        obtain ⟨a, ws, rfl, ea, eh, r1⟩ := hs.lst rx e
        obtain ⟨u, rfl, ru⟩ := rs.one
        refine ⟨a, ws, u, rfl, rfl, eh, by rw [r1.length]; exact Nat.le_of_ble_eq_true hz, ?_⟩
        exact q _ G Ext.refl (hs.chg ea eh (.lst (r1.app (.cons ru .nil)))) _ .non
      · exact q.elim
    · exact q.elim
  · exact q.elim
def mPop : Vl → List Vl → Sto → Rs Vl := fun x xs S => match x, xs with
  | .ref n, [] => match S[n]? with
    | some (.lst ds) => match ds[ds.length - 1]? with
      | some y => .ok y (S.set n (.lst (ds.take (ds.length - 1))))
      | none => .bad
    | _ => .bad
  | _, _ => .bad
theorem rm_pop : RMs F W rPop mPop := by
  intro σ H G S v x vs xs hs rx rs Q q
  unfold mPop at q
  split at q
  · rename_i n
    split at q
    · rename_i ds e
      split at q
      · rename_i y hy
        obtain ⟨a, ws, rfl, ea, eh, r1⟩ := hs.lst rx e
        cases rs
        obtain ⟨u, hu, ru⟩ := r1.get hy
        rw [← r1.length] at hu
        refine ⟨a, ws, u, rfl, rfl, eh, hu, ?_⟩
        have e1 : ws.dropLast = ws.take (ws.length - 1) := List.dropLast_eq_take
        have r2 : RVs F.K G ws.dropLast (ds.take (ds.length - 1)) := by
          rw [e1, r1.length]
          exact r1.take _
        exact q _ G Ext.refl (hs.chg ea eh (.lst r2)) _ ru
      · exact q.elim
    · exact q.elim
  · exact q.elim
def mExtend : Vl → List Vl → Sto → Rs Vl := fun x xs S => match x, xs with
  | .ref n, [.ref k] => match S[n]? with
    | some (.lst ds) => match S[k]? with
      | some (.lst es) => if Nat.ble (ds.length + es.length) 16777216 then .ok .non (S.set n (.lst (ds ++ es))) else .bad
      | _ => .bad
    | _ => .bad
  | _, _ => .bad
theorem rm_extend : RMs F W rExtend mExtend := by
  intro σ H G S v x vs xs hs rx rs Q q
  unfold mExtend at q
  split at q
  · rename_i n k
    split at q
    · rename_i ds e
      split at q
      · rename_i es e2
        split at q
        · rename_i hz
          obtain ⟨a, ws, rfl, ea, eh, r1⟩ := hs.lst rx e
          obtain ⟨u, rfl, ru⟩ := rs.one
          obtain ⟨b, zs, rfl, eb, ebh, r2⟩ := hs.lst ru e2
          refine ⟨a, b, ws, zs, rfl, rfl, eh, ebh, by rw [r1.length, r2.length]; exact szl hz, ?_⟩
          exact q _ G Ext.refl (hs.chg ea eh (.lst (r1.app r2))) _ .non
        · exact q.elim
      · exact q.elim
    · exact q.elim
  · exact q.elim
/-! ### o.f = e -/
def putA (f : Str) (y : Vl) : List (Str × Vl) → List (Str × Vl)
  | [] => [(f, y)]
  | (g, x) :: r => if g = f then (g, y) :: r else (g, x) :: putA f y r
theorem RF.putF {K : PySem.W.Frag} {G : Gd} {f : Str} {v : V} {y : Vl} (r : RV K G v y) : ∀ {fs : List (Str × V)} {gs : List (Str × Vl)}, RF K G fs gs → RF K G (L2.putF f v fs) (putA f y gs)
  | _, [], h => by cases h; exact .cons r .nil
  | _, (k, d) :: gs, h => by
    cases h with
    | cons h1 h2 =>
      unfold L2.putF putA
      split
      · exact .cons r h2
      · exact .cons h1 (RF.putF r h2)
def sFld (cs : List Str) (f : Str) (fo fv : Fe) : Fs := fun env S => ((fv env S).bind fun y S1 => (fo env S1).bind fun x S2 => (Rs.ok (x, y) S2 : Rs (Vl × Vl))).out env fun p S2 => match p.1 with
  | .ref n => match S2[n]? with
    | some (.ins C fs) => if cs.contains C && Nat.blt fs.length 1000 then .nx env (S2.set n (.ins C (putA f p.2 fs))) else .bad
    | _ => .bad
  | _ => .bad
theorem es_fld {cs : List Str} {f : Str} (hc : FldOk F.K cs f) (ha : EV F W ta fa) (hv : EV F W te fb) : ES F W (L2.sFld F.K ta te f) (sFld cs f fa fb) := by
  intro σ H G env S hs re D P
  have P1 := P.out (k := fun p H2 G2 => ∀ v w, RV F.K G2 v p.1 → RV F.K G2 w p.2 → ∃ a C dx fs, v = V.ref a ∧ H2 a = some (.ins C dx fs) ∧ Cls F.K C ∧ NoAttr F.K C f ∧ fs.length < 1000 ∧ D.nx σ (upd H2 a (.ins C dx (L2.putF f w fs)))) re fun p S2 H2 G2 x2 hs2 q v w rv rw => by
    obtain ⟨x, y⟩ := p
    dsimp only at q rv rw
    split at q
    · rename_i n
      split at q
      · rename_i C gs e
        split at q
        · rename_i hk
          rw [Bool.and_eq_true] at hk
          obtain ⟨a, dx, fs, rfl, ea, eh, rf⟩ := hs2.ins rv e
          have hC := hc C (by simpa using hk.1)
          refine ⟨a, _, dx, fs, rfl, eh, hC.1, hC.2, by rw [rf.length]; exact Nat.le_of_ble_eq_true hk.2, ?_⟩
          exact q σ _ G2 Ext.refl (hs2.chg ea eh (.ins (rf.putF rw))) (re.up x2)
        · exact q.elim
      · exact q.elim
    · exact q.elim
  refine hv σ H G env S hs re _ (P1.bind fun y S1 H1 G1 x1 hs1 q1 w rw => ?_)
  refine ha σ H1 G1 env S1 hs1 (re.up x1) _ (q1.bind fun x S2 H2 G2 x2 hs2 q2 v rv => ?_)
  exact q2 H2 G2 Ext.refl hs2 v w rv (rw.up x2)
end
end SL
set_option Elab.async false
set_option linter.all false
set_option maxRecDepth 100000
/-! SL7: what loops walk, comprehensions, slices -/
namespace SL
open PySem PySem.Spec PyProof.Rows L2 DL
section
variable {F : SL.Act} {W : WX} {te ta tb : TE} {tt : TT} {tr : TA} {f fa fb : Fe}
/-! ### sources -/
def iL (f : Fe) : Fi := fun env S => (f env S).bind fun x S1 => match x with
  | .ref n => match S1[n]? with
    | some (.lst _) => .ok (.st n) S1
    | _ => .bad
  | _ => .bad
def iT (f : Fe) : Fi := fun env S => (f env S).bind fun x S1 => match x with
  | .tup ds => .ok (.fix ds) S1
  | _ => .bad
def iS (f : Fe) : Fi := fun env S => (f env S).bind fun x S1 => match x with
  | .str s => .ok (.fix (s.map fun c => .str [c])) S1
  | _ => .bad
theorem src_list {G0 : Gd} {a : Addr} {n : Nat} (ea : G0.m[n]? = some a) : IsSrc F G0 (Itl F.K a) (.st n) := by
  intro i G H S x hs
  have ea2 := x.pre n a ea
  refine ⟨fun h => ?_, fun d h => ?_⟩
  · simp only [Src.nxt] at h
    split at h
    · rename_i ds e
      split at h
      · cases h
      · rename_i hn
        obtain ⟨b, vs, hb, eb, eh, r⟩ := hs.lst (.ref ea2) e
        cases hb
        exact ⟨vs, .inl (.inl eh), by rw [r.length]; exact List.getElem?_eq_none_iff.mp hn⟩
    · cases h
  · simp only [Src.nxt] at h
    split at h
    · rename_i ds e
      split at h
      · rename_i d' hd
        simp only [Nx.item.injEq] at h
        subst h
        obtain ⟨b, vs, hb, eb, eh, r⟩ := hs.lst (.ref ea2) e
        cases hb
        obtain ⟨v, hv, rv⟩ := r.get hd
        refine ⟨⟨vs, v, .inl (.inl eh), hv⟩, fun x H' hy => ?_⟩
        obtain ⟨rfl, h2⟩ := hy
        have := h2 vs (.inl (.inl eh))
        rw [hv] at this
        cases this
        exact ⟨G, Ext.refl, hs, rv⟩
      · cases h
    · cases h
theorem src_fix {G0 : Gd} {J : It} {ds : List Vl} {P : Hp → Prop} {Y : Nat → Hp → V → Hp → Prop} (w : Walk J ds.length P Y) (hP : ∀ (G : Gd) (H : Hp) (S : Sto), Ext G0 G → HS F H G S → P H)
    (hY : ∀ (i : Nat) (d : Vl) (G : Gd) (H : Hp) (S : Sto) (x : V) (H' : Hp), ds[i]? = some d → Ext G0 G → HS F H G S → Y i H x H' → ∃ G', Ext G G' ∧ HS F H' G' S ∧ RV F.K G' x d) : IsSrc F G0 J (.fix ds) := by
  intro i G H S x hs
  refine ⟨fun h => ?_, fun d h => ?_⟩
  · simp only [Src.nxt] at h
    split at h
    · cases h
    · split at h
      · rename_i hb
        rw [Nat.eq_of_beq_eq_true hb]
        exact w.stops H (hP G H S x hs)
      · cases h
  · simp only [Src.nxt] at h
    split at h
    · rename_i d' hd
      simp only [Nx.item.injEq] at h
      subst h
      have hi := (List.getElem?_eq_some_iff.mp hd).1
      exact ⟨w.goes i H hi (hP G H S x hs), fun y H' hy => hY i d' G H S y H' hd x hs (w.yields i H y H' hi (hP G H S x hs) hy)⟩
    · split at h <;> cases h
theorem ei_list (h : EV F W te f) : EI F W (iList F.K te) (iL f) := by
  intro σ H G env S hs re R q
  refine h σ H G env S hs re _ (q.bind fun x S1 H1 G1 x1 hs1 q1 v rv => ?_)
  split at q1
  · rename_i n
    split at q1
    · rename_i ds e
      obtain ⟨a, vs, rfl, ea, eh, r⟩ := hs1.lst rv e
      exact ⟨a, rfl, ⟨vs, .inl (.inl eh)⟩, q1 H1 G1 Ext.refl hs1 _ (src_list ea)⟩
    · exact q1.elim
  · exact q1.elim
theorem ei_tup (h : EV F W te f) : EI F W (iTup F.K te) (iT f) := by
  intro σ H G env S hs re R q
  refine h σ H G env S hs re _ (q.bind fun x S1 H1 G1 x1 hs1 q1 v rv => ?_)
  split at q1
  · rename_i ds
    cases rv with
    | tup k1 k2 =>
      rename_i a xs
      refine ⟨a, rfl, ⟨xs, hs1.gr.sqT k1⟩, q1 H1 G1 Ext.refl hs1 _ (src_fix (by rw [← k2.length]; exact walk_tup (K := F.K) (a := a) (xs := xs)) (fun G2 H2 S2 g2 hs2 => hs2.gr.sqT (g2.gr.sqT k1)) fun i d G2 H2 S2 x H3 hd g2 hs2 hy => ?_)⟩
      obtain ⟨rfl, hx⟩ := hy
      obtain ⟨v, m1, m2⟩ := k2.get hd
      rw [hx] at m1
      cases m1
      exact ⟨G2, Ext.refl, hs2, m2.up g2⟩
  · exact q1.elim
theorem ei_str (h : EV F W te f) : EI F W (iStr te) (iS f) := by
  intro σ H G env S hs re R q
  refine h σ H G env S hs re _ (q.bind fun x S1 H1 G1 x1 hs1 q1 v rv => ?_)
  split at q1
  · rename_i s
    cases rv
    have hw := walk_str (z := ⟨s.toArray⟩)
    refine ⟨_, rfl, q1 H1 G1 Ext.refl hs1 _ (src_fix (by rw [List.length_map]; exact (by simpa using hw)) (fun _ _ _ _ _ => trivial) fun i d G2 H2 S2 x H3 hd g2 hs2 hy => ?_)⟩
    obtain ⟨rfl, c, hc, rfl⟩ := hy
    rw [List.getElem?_map] at hd
    have hc2 : s[i]? = some c := by simpa using hc
    rw [hc2] at hd
    simp only [Option.map_some, Option.some.injEq] at hd
    subst hd
    exact ⟨G2, Ext.refl, hs2, RV.str [c]⟩
  · exact q1.elim
def rngV (lo : Int) (n : Nat) : List Vl := (List.range n).map fun i => .int (lo + (i : Nat))
def iR1 (fq : Fa) : Fi := fun env S => (fq env S).bind fun xs S1 => match xs with
  | [.int j] => if ibd 1000000000 j then .ok (.fix (rngV 0 j.toNat)) S1 else .bad
  | _ => .bad
def iR2 (fq : Fa) : Fi := fun env S => (fq env S).bind fun xs S1 => match xs with
  | [.int i, .int j] => if ibd 1000000000 i && ibd 1000000000 j then .ok (.fix (rngV i (j - i).toNat)) S1 else .bad
  | _ => .bad
theorem src_rng {G0 : Gd} {lo : Int} {n : Nat} : IsSrc F G0 (Itr lo n) (.fix (rngV lo n)) := by
  refine src_fix (by rw [show (rngV lo n).length = n by simp [rngV]]; exact walk_range) (fun _ _ _ _ _ => trivial) fun i d G2 H2 S2 x H3 hd g2 hs2 hy => ?_
  obtain ⟨rfl, rfl⟩ := hy
  have hn : i < n := by
    have := (List.getElem?_eq_some_iff.mp hd).1
    simpa [rngV] using this
  simp only [rngV] at hd
  rw [List.getElem?_map, List.getElem?_range hn] at hd
  simp only [Option.map_some, Option.some.injEq] at hd
  subst hd
  exact ⟨G2, Ext.refl, hs2, .int _⟩
end
end SL
set_option Elab.async false
set_option linter.all false
set_option maxRecDepth 100000
/-! SL8: ranges, comprehensions, slices, any and all over signs -/
namespace SL
open PySem PySem.Spec PyProof.Rows L2 DL
section
variable {F : SL.Act} {W : WX} {te ta tb : TE} {tt : TT} {tr : TA} {f fa fb : Fe}
theorem RVs.two {K : PySem.W.Frag} {G : Gd} {vs : List V} {x y : Vl} (r : RVs K G vs [x, y]) : ∃ v w, vs = [v, w] ∧ RV K G v x ∧ RV K G w y := by
  cases r with
  | cons h1 h2 => cases h2 with
    | cons h3 h4 => cases h4; exact ⟨_, _, rfl, h1, h3⟩
theorem ei_r1 {fq : Fa} (h : EA F W tr fq) : EI F W (iRng1 tr) (iR1 fq) := by
  intro σ H G env S hs re R q
  refine h σ H G env S hs re _ (q.bind fun xs S1 H1 G1 x1 hs1 q1 vs rvs => ?_)
  split at q1
  · rename_i j
    split at q1
    · rename_i hj
      have hj := ibd_ok hj
      obtain ⟨v, rfl, rv⟩ := rvs.one
      cases rv
      exact ⟨j, rfl, by omega, by omega, q1 H1 G1 Ext.refl hs1 _ src_rng⟩
    · exact q1.elim
  · exact q1.elim
theorem ei_r2 {fq : Fa} (h : EA F W tr fq) : EI F W (iRng2 tr) (iR2 fq) := by
  intro σ H G env S hs re R q
  refine h σ H G env S hs re _ (q.bind fun xs S1 H1 G1 x1 hs1 q1 vs rvs => ?_)
  split at q1
  · rename_i i j
    split at q1
    · rename_i hj
      rw [Bool.and_eq_true] at hj
      have hi1 := ibd_ok hj.1
      have hj := ibd_ok hj.2
      obtain ⟨v, w, rfl, rv, rw'⟩ := rvs.two
      cases rv; cases rw'
      exact ⟨i, j, rfl, ⟨by omega, by omega, by omega, by omega⟩, q1 H1 G1 Ext.refl hs1 _ src_rng⟩
    · exact q1.elim
  · exact q1.elim
/-! ### comprehensions -/
def Rs.nox {α : Type} (r : Rs α) : Rs α := match r with
  | .ex _ _ => .bad
  | r => r
theorem PG.nox {α : Type} {W W' : WX} {σ σ' : L2.St} {G : Gd} {k : α → Hp → Gd → Prop} {r : Rs α} (h : PG F W σ G k r.nox) : PG F W' σ' G k r := by
  cases r with
  | ok x S => exact h
  | ex e S => exact h.elim
  | bad => exact h
def wipeS (env : SEnv) : List Nat → SEnv
  | [] => env
  | v :: vs => (wipeS env vs).set v none
theorem wipeS_length (env : SEnv) : ∀ vs : List Nat, (wipeS env vs).length = env.length
  | [] => rfl
  | v :: vs => by
    simp only [wipeS, List.length_set]
    exact wipeS_length env vs
theorem wipeS_some {env : SEnv} {i : Nat} {o : Vl} : ∀ {vs : List Nat}, (wipeS env vs)[i]? = some (some o) → env[i]? = some (some o) ∧ i ∉ vs
  | [], h => ⟨h, by simp⟩
  | v :: vs, h => by
    simp only [wipeS] at h
    by_cases z : i = v
    · subst z
      by_cases q : i < (wipeS env vs).length
      · rw [List.getElem?_set_self q] at h
        cases h
      · rw [List.getElem?_eq_none (by rw [List.length_set]; omega)] at h
        cases h
    · rw [List.getElem?_set_ne (fun w => z w.symm)] at h
      obtain ⟨h1, h2⟩ := wipeS_some h
      exact ⟨h1, by simp [z, h2]⟩
theorem RE.wiped {K : PySem.W.Frag} {G : Gd} {σ : L2.St} {env : SEnv} (re : RE K G σ env) (vs : List Nat) : RE K G (wipe σ vs) (wipeS env vs) := by
  refine ⟨by rw [wipe_length, wipeS_length]; exact re.len, fun i d e => ?_⟩
  obtain ⟨h1, h2⟩ := wipeS_some e
  rw [wipe_get h2]
  exact re.slot i d h1
def lcS (s : Src) (fg : Fg) (ft : Ft) (fe : Fe) (vs : List Nat) (D : Nat) (env : SEnv) : Nat → Nat → Sto → Rs Vl
  | 0, _, _ => .bad
  | m + 1, i, S => match s.nxt i S with
    | .bad => .bad
    | .stop => .ok (.ref D) S
    | .item d => match fg d (wipeS env vs) with
      | none => .bad
      | some e1 => (ft e1 S).nox.bind fun b S1 => if b then (fe e1 S1).nox.bind fun y S2 => match S2[D]? with
            | some (.lst acc) => if Nat.blt acc.length 16777216 then lcS s fg ft fe vs D env m (i + 1) (S2.set D (.lst (acc ++ [y]))) else .bad
            | _ => .bad
          else lcS s fg ft fe vs D env m (i + 1) S1
def fLc (fi : Fi) (fg : Fg) (ft : Ft) (fe : Fe) (vs : List Nat) : Fe := fun env S => (fi env S).bind fun s S1 => lcS s fg ft fe vs S1.length env 1000000 0 (S1 ++ [.lst []])
theorem eb_yes : EB F W tYes (fun _ S => .ok true S) := fun σ H G env S hs re Q q => q H G Ext.refl hs
theorem ev_lc {wi : TI} {g : TG} {fi : Fi} {fg : Fg} {ft : Ft} {fe : Fe} {vs is : List Nat} {W1 : WX} (hi : EI F W wi fi) (hg : EG F g fg is) (ht : EB F W1 tt ft) (he : EV F W1 te fe) (his : ∀ j ∈ is, j ∈ vs) : EV F W (tLc wi g tt te vs) (fLc fi fg ft fe vs) := by
  intro σ H G env S hs re Q q
  refine hi σ H G env S hs re _ (q.bind fun s S0 H0 G0 x0 hs0 q0 J hJ => ?_)
  intro D hD
  obtain ⟨hsD, xD, lD⟩ := hs0.alloc (u := .lst []) (o := .lst []) hD (.lst .nil)
  refine ⟨fun i m Ht => ∃ (G1 : Gd) (S1 : Sto), Ext ⟨G0.b, G0.m ++ [D]⟩ G1 ∧ HS F Ht G1 S1 ∧ PG F W σ G1 (kV' F Q) (lcS s fg ft fe vs S0.length env m i S1), ⟨_, _, _, Ext.refl, hsD, PG.ext xD q0⟩, fun i m Ht hW => ?_⟩
  obtain ⟨G1, S1, x1, hs1, q1⟩ := hW
  have lD1 : G1.m[S0.length]? = some D := x1.pre _ _ lD
  cases m with
  | zero => exact q1.elim
  | succ m =>
    obtain ⟨j1, j2⟩ := hJ i G1 Ht S1 (xD.trans x1) hs1
    simp only [lcS] at q1
    cases hn : s.nxt i S1 with
    | bad => rw [hn] at q1; exact q1.elim
    | stop =>
      rw [hn] at q1
      exact .inl ⟨j1 hn, q1 Ht G1 Ext.refl hs1 _ (.ref lD1)⟩
    | item d =>
      rw [hn] at q1
      dsimp only at q1
      obtain ⟨k1, k2⟩ := j2 d hn
      refine .inr ⟨k1, fun H3 => ∃ (G3 : Gd) (S3 : Sto), Ext ⟨G0.b, G0.m ++ [D]⟩ G3 ∧ HS F H3 G3 S3 ∧ PG F W σ G3 (kV' F Q) (lcS s fg ft fe vs S0.length env m (i + 1) S3), fun H3 h3 => ⟨m, Nat.lt_succ_self m, h3⟩, fun x H2 hy => ?_⟩
      obtain ⟨G2, x2, hs2, rv⟩ := k2 x H2 hy
      cases h2 : fg d (wipeS env vs) with
      | none => rw [h2] at q1; exact q1.elim
      | some e1 =>
        rw [h2] at q1
        dsimp only at q1
        have q2 := PG.ext x2 q1
        have re2 : RE F.K G2 (wipe σ vs) (wipeS env vs) := ((re.up x0).up ((xD.trans x1).trans x2)).wiped vs
        refine hg _ H2 G2 _ e1 S1 x d hs2 re2 rv h2 _ fun σ2 re3 ag => ⟨?_, ?_⟩
        · have hww : wipe (wipe σ vs) vs = wipe σ vs := by
            have ag0 : Agr vs (wipe σ vs) σ := ⟨(wipe_length σ vs).symm, fun j n => (wipe_get n).symm⟩
            exact (wipe_agr ag0 fun j z => z).symm
          rw [wipe_agr ag his, hww]
        refine ht σ2 H2 G2 e1 S1 hs2 re3 _ (PG.nox (W := W) (σ := σ) (q2.bind fun b S3 H3 G3 x3 hs3 q3 => ?_))
        have x13 := (x1.trans x2).trans x3
        cases b with
        | false =>
          exact iteF ⟨G3, S3, x13, hs3, q3⟩
        | true =>
          rw [if_pos rfl] at q3
          refine iteT (he σ2 H3 G3 e1 S3 hs3 (re3.up x3) _ (PG.nox (W := W) (σ := σ) (q3.bind fun y S4 H4 G4 x4 hs4 q4 v rv4 => ?_)))
          have lD4 : G4.m[S0.length]? = some D := x4.pre _ _ (x3.pre _ _ (x2.pre _ _ lD1))
          split at q4
          · rename_i acc ea
            split at q4
            · rename_i hz
              obtain ⟨a, ws, hb, eb, eh, r⟩ := hs4.lst (.ref lD4) ea
              cases hb
              exact ⟨ws, eh, by rw [r.length]; exact Nat.le_of_ble_eq_true hz, G4, _, x13.trans x4, hs4.chg lD4 eh (.lst (r.app (.cons rv4 .nil))), q4⟩
            · exact q4.elim
          · exact q4.elim
/-! ### slices -/
abbrev Fo := SEnv → Sto → Rs (Option Int)
def EO (F : SL.Act) (W : WX) (to : TO) (f : Fo) : Prop := ∀ (σ : L2.St) (H : Hp) (G : Gd) (env : SEnv) (S : Sto), HS F H G S → RE F.K G σ env → ∀ Q : Option Int → Hp → Prop, PG F W σ G (fun i H' _ => Q i H') (f env S) → to σ H Q
def oNone : Fo := fun _ S => .ok none S
def oSome (f : Fe) : Fo := fun env S => (f env S).bind fun x S1 => match x with
  | .int i => .ok (some i) S1
  | _ => .bad
theorem eo_none : EO F W tNoPart oNone := fun σ H G env S hs re Q q => q H G Ext.refl hs
theorem eo_some (h : EV F W te f) : EO F W (tPart te) (oSome f) := by
  intro σ H G env S hs re Q q
  refine h σ H G env S hs re _ (q.bind fun x S1 H1 G1 x1 hs1 q1 v rv => ?_)
  split at q1
  · rename_i i
    cases rv
    exact ⟨i, rfl, q1 H1 G1 Ext.refl hs1⟩
  · exact q1.elim
theorem cutD_rvs {K : PySem.W.Frag} {G : Gd} {vs : List V} {ds : List Vl} (r : RVs K G vs ds) (lo hi : Option Int) : RVs K G (cutV vs lo hi) (DL.cutD ds lo hi) := by
  unfold cutV DL.cutD
  rw [r.length, ixS_eq, ixS_eq]
  exact (r.drop _).take _
def gSl (x : Vl) (lo hi : Option Int) (S : Sto) : Rs Vl := match x with
  | .ref n => match S[n]? with
    | some (.lst ds) => .ok (.ref S.length) (S ++ [.lst (DL.cutD ds lo hi)])
    | _ => .bad
  | .tup ds => .ok (.tup (DL.cutD ds lo hi)) S
  | .str s => if Nat.ble s.length 16777216 then .ok (.str (DL.cutD s lo hi)) S else .bad
  | _ => .bad
def fSl (fa : Fe) (fl fh : Fo) : Fe := fun env S => (fa env S).bind fun x S1 => (fl env S1).bind fun lo S2 => (fh env S2).bind fun hi S3 => gSl x lo hi S3
theorem ev_sl {tl th : TO} {fl fh : Fo} (ha : EV F W te fa) (hl : EO F W tl fl) (hh : EO F W th fh) : EV F W (tSl (rSlU F.K) te tl th) (fSl fa fl fh) := by
  intro σ H G env S hs re Q q
  refine ha σ H G env S hs re _ (q.bind fun x S1 H1 G1 x1 hs1 q1 v rv => ?_)
  refine hl σ H1 G1 env S1 hs1 (re.up x1) _ (q1.bind fun lo S2 H2 G2 x2 hs2 q2 => ?_)
  refine hh σ H2 G2 env S2 hs2 ((re.up x1).up x2) _ (q2.bind fun hi S3 H3 G3 x3 hs3 q3 => ?_)
  have r3 : RV F.K G3 v x := rv.up (x2.trans x3)
  unfold gSl at q3
  split at q3
  · split at q3
    · rename_i n ds e
      obtain ⟨a, vs, rfl, ea, eh, r⟩ := hs3.lst r3 e
      refine .inl ⟨_, _, rfl, .inl (.inl eh), fun p hp => ?_⟩
      obtain ⟨hs4, x4, l4⟩ := hs3.alloc (u := .lst (cutV vs lo hi)) (o := .lst (DL.cutD ds lo hi)) hp (.lst (cutD_rvs r lo hi))
      exact q3 _ _ x4 hs4 _ (.ref l4)
    · exact q3.elim
  · rename_i ds
    cases r3 with
    | tup k1 k2 =>
      rename_i a xs'
      refine .inr (.inl ⟨_, _, rfl, hs3.gr.sqT k1, fun hw => ?_, fun _ p hp => ?_⟩)
      · refine q3 H3 G3 Ext.refl hs3 _ (.tup k1 ?_)
        have hc := cutD_rvs k2 lo hi
        unfold cutV at hc
        rw [hw.1, hw.2, Nat.sub_zero, List.drop_zero, List.take_length] at hc
        exact hc
      · obtain ⟨hs4, x4⟩ := hs3.put (u := .tup (cutV xs' lo hi)) hp (fun ps z => by cases z)
        exact q3 _ _ x4 hs4 _ (.tup (.inl (.inl upd_same)) ((cutD_rvs k2 lo hi).up x4))
  · rename_i s
    split at q3
    · rename_i hz
      cases r3
      refine .inr (.inr ⟨_, rfl, by rw [str_len]; exact szl hz, ?_⟩)
      have e9 : ∀ s : List Nat, cutS ⟨s.toArray⟩ lo hi = ⟨(DL.cutD s lo hi).toArray⟩ := fun s => by
        unfold cutS DL.cutD
        rw [str_len, ixS_eq, ixS_eq]
      rw [e9]
      exact q3 H3 G3 Ext.refl hs3 _ (.str _)
    · exact q3.elim
  · exact q3.elim
/-! ### is None -/
def isN : Vl → Bool
  | .non => true
  | _ => false
def gIs (x y : Vl) (S : Sto) : Rs Vl := if isN y then .ok (.bl (isN x)) S else .bad
def gIsN (x y : Vl) (S : Sto) : Rs Vl := if isN y then .ok (.bl (!isN x)) S else .bad
theorem isN_ok {K : PySem.W.Frag} {G : Gd} {v : V} {x : Vl} (r : RV K G v x) : decide (v = .non) = isN x := by
  cases r <;> simp [isN]
theorem r2_is : R2s F W rIsN gIs := by
  intro σ H G S v w x y hs rx ry Q q
  unfold gIs at q
  split at q
  · rename_i h
    cases y with
    | non =>
      cases ry
      exact ⟨rfl, by rw [isN_ok rx]; exact q H G Ext.refl hs _ (.bl _)⟩
    | _ => cases h
  · exact q.elim
theorem r2_isn : R2s F W rNotN gIsN := by
  intro σ H G S v w x y hs rx ry Q q
  unfold gIsN at q
  split at q
  · rename_i h
    cases y with
    | non =>
      cases ry
      exact ⟨rfl, by rw [isN_ok rx]; exact q H G Ext.refl hs _ (.bl _)⟩
    | _ => cases h
  · exact q.elim
/-! ### all(.. for x in text) -/
def fAllT (pb : Nat → Bool) (fa : Fe) : Fe := fun env S => (fa env S).bind fun x S1 => match x with
  | .str s => .ok (.bl (s.all pb)) S1
  | _ => .bad
theorem HS.tabbed {H H2 : Hp} {G : Gd} {S : Sto} {P : Addr} (hs : HS F H G S) (hP : P ∈ F.T) (t : GxR.Tabbed P H H2) : HS F H2 G S := by
  obtain ⟨t1, t2⟩ := t
  obtain ⟨ps0, e0, _⟩ := hs.tb P hP
  refine ⟨fun a u z => ?_, hs.nt, fun p hp => ?_, hs.len, fun n o e => ?_, hs.out, hs.inj⟩
  · have z1 := hs.gr a u z
    rw [t2 a (fun w => by rw [w] at z z1; rw [e0] at z1; exact hs.nt P ps0 (by rw [z, Option.some.inj z1]))]
    exact z1
  · by_cases w : p = P
    · rw [w]
      exact t1
    · obtain ⟨ps, e9, k⟩ := hs.tb p hp
      exact ⟨ps, by rw [t2 p w]; exact e9, k⟩
  · obtain ⟨a, u, e1, e2, e3⟩ := hs.obj n o e
    refine ⟨a, u, e1, ?_, e3⟩
    rw [t2 a (fun w => by rw [w, e0] at e2; exact e3.notbl ps0 (Option.some.inj e2).symm)]
    exact e2
theorem ev_allT {P : Addr} (hP : P ∈ F.T) {pb : Nat → Bool} (ha : EV F W te fa) : EV F W (GxR.tAllS P pb te) (fAllT pb fa) := by
  intro σ H G env S hs re Q q
  refine ha σ H G env S hs re _ (q.bind fun x S1 H1 G1 x1 hs1 q1 v rv => ?_)
  split at q1
  · rename_i s
    cases rv
    refine ⟨⟨s.toArray⟩, rfl, hs1.tb P hP, fun H2 t => ?_⟩
    have := q1 H2 G1 Ext.refl (hs1.tabbed hP t) _ (.bl (s.all pb))
    simpa using this
  · exact q1.elim
/-! ### a, b = x, y -/
def sPar (i j : Nat) (fa : Fa) : Fs := fun env S => (fa env S).out env fun xs S1 => match xs with
  | [x, y] => if Nat.blt i env.length && Nat.blt j env.length then .nx ((env.set i (some x)).set j (some y)) S1 else .bad
  | _ => .bad
theorem es_par {i j : Nat} {fa : Fa} (h : EA F W tr fa) : ES F W (tPar i j tr) (sPar i j fa) := by
  intro σ H G env S hs re D P
  refine h σ H G env S hs re _ (P.out re fun xs S1 H1 G1 x1 hs1 q vs rvs => ?_)
  split at q
  · rename_i x y
    split at q
    · obtain ⟨v, w, rfl, rv, rw'⟩ := rvs.two
      exact ⟨v, w, rfl, q _ H1 G1 Ext.refl hs1 (((re.up x1).put i rv).put j rw')⟩
    · exact q.elim
  · exact q.elim
/-! ### tuple(list), tuple(tuple) -/
def gTupOf (xs : List Vl) (S : Sto) : Rs Vl := match xs with
  | [.tup ds] => .ok (.tup ds) S
  | [.ref n] => match S[n]? with
    | some (.lst ds) => .ok (.tup ds) S
    | _ => .bad
  | _ => .bad
def rTupOf (K : PySem.W.Frag) : List V → Hp → VK → Prop := fun xs H Q => ∃ p ys, xs = [.ref p] ∧ ((SqL K H p ys ∧ ∀ l, H l = none → Q (.ref l) (upd H l (.tup ys))) ∨ (SqT K H p ys ∧ Q (.ref p) H))
theorem xtup {X : Cx} (K : PySem.W.Frag) (h : X.K = K := by rfl) : CallR X (.type "tuple") (rTupOf K) := h ▸ call_tuple_of
theorem rc_tup : RCs F W (rTupOf F.K) gTupOf := by
  intro σ H G S vs xs hs r Q q
  unfold gTupOf at q
  split at q
  · rename_i ds
    obtain ⟨v, rfl, rv⟩ := r.one
    cases rv with
    | tup h1 r1 => exact ⟨_, _, rfl, .inr ⟨hs.gr.sqT h1, q H G Ext.refl hs _ (.tup h1 r1)⟩⟩
  · rename_i n
    obtain ⟨v, rfl, rv⟩ := r.one
    split at q
    · rename_i ds hn
      obtain ⟨a, ws, rfl, ea, eh, r1⟩ := hs.lst rv hn
      refine ⟨_, ws, rfl, .inl ⟨.inl (.inl eh), fun l hl => ?_⟩⟩
      obtain ⟨hs4, x4⟩ := hs.put (u := .tup ws) hl (fun ps z => by cases z)
      exact q _ _ x4 hs4 _ (.tup (.inl (.inl upd_same)) (r1.up x4))
    · exact q.elim
  · exact q.elim
end
end SL
set_option Elab.async false
set_option linter.all false
set_option maxRecDepth 100000
/-! SL9: named rules; isinstance; fields changed by an operator; methods of texts -/
namespace SL
open PySem PySem.Spec PyProof.Rows L2 DL
section
variable {F : SL.Act} {W : WX} {te ta tb : TE} {tt : TT} {tr : TA} {f fa fb : Fe}
theorem r2_add : R2s F W (rAddU F.K) (lift2 gAdd) := r2_lift fun F' h => by rw [← h]; exact rd_addU
theorem r2_sub : R2s F W (rI0 fun i j => .int (i - j)) (lift2 gSub) := r2_lift fun F' _ => rd_sub
theorem r2_mul : R2s F W rMulU (lift2 gMul) := r2_lift fun F' _ => rd_mulU
theorem r2_div : R2s F W (rI CDiv fun i j => .int (i / j)) (lift2 gDiv) := r2_lift fun F' _ => rd_div
theorem r2_mod : R2s F W (rI (fun _ j => 0 < j) fun i j => .int (i % j)) (lift2 gMod) := r2_lift fun F' _ => rd_mod
theorem r2_pow : R2s F W (rI CPow fun i j => .int (i ^ j.toNat)) (lift2 gPow) := r2_lift fun F' _ => rd_pow
theorem r1_neg : R1s F W (rU fun i => .int (-i)) (lift1 gNeg) := r1_lift fun F' _ => rd_neg
theorem r2_eq : R2s F W (rEqD F.K) (lift2 gEq) := r2_lift fun F' h => by rw [← h]; exact rd_eq
theorem r2_ne : R2s F W (rNeD F.K) (lift2 gNe) := r2_lift fun F' h => by rw [← h]; exact rd_ne
theorem r2_lt : R2s F W (rI0 fun i j => .bl (decide (i < j))) (lift2 gLt) := r2_lift fun F' _ => rd_lt
theorem r2_le : R2s F W (rI0 fun i j => .bl (decide (i ≤ j))) (lift2 gLe) := r2_lift fun F' _ => rd_le
theorem r2_gt : R2s F W (rI0 fun i j => .bl (decide (j < i))) (lift2 gGt) := r2_lift fun F' _ => rd_gt
theorem r2_ge : R2s F W (rI0 fun i j => .bl (decide (j ≤ i))) (lift2 gGe) := r2_lift fun F' _ => rd_ge
theorem r2_in : R2s F W (rInU F.K) (lift2 gIn) := r2_lift fun F' h => by rw [← h]; exact rd_in
theorem r2_ni : R2s F W (rNiU F.K) (lift2 gNi) := r2_lift fun F' h => by rw [← h]; exact rd_ni
theorem rc_mx2 : RCs F W rMx2 (liftC gMx2) := rc_lift fun F' _ => DL.rc_mx2
theorem rc_all : RCs F W (rAll F.K) (liftC gAll) := rc_lift fun F' h => by rw [← h]; exact DL.rc_all
theorem rc_any : RCs F W (rAny F.K) (liftC gAny) := rc_lift fun F' h => by rw [← h]; exact DL.rc_any
/-- x += n, ints -/
theorem r2_ip {g : Int → Int → Int} : R2s F W (ipI g) (lift2 (gI g)) := r2_lift fun F' _ => rd_ip
theorem r2_inAdd : R2s F W rAdd (lift2 (gI fun i j => i + j)) := r2_lift fun F' _ => (show RD2 F' (rI0 fun i j => .int (i + j)) _ from rd_I)
theorem r2_inSub : R2s F W L2.rSub (lift2 (gI fun i j => i - j)) := r2_lift fun F' _ => (show RD2 F' (rI0 fun i j => .int (i - j)) _ from rd_I)
/-! ### o.f op= e -/
def sFldAug (cs : List Str) (f : Str) (g : Vl → Vl → Sto → Rs Vl) (fo fv : Fe) : Fs := fun env S => ((fo env S).bind fun x S1 => (gFldC cs f x S1).bind fun y S2 => (fv env S2).bind fun z S3 => (g y z S3).bind fun u S4 => (Rs.ok (x, u) S4 : Rs (Vl × Vl))).out env fun p S4 => match p.1 with
  | .ref n => match S4[n]? with
    | some (.ins C fs) => if cs.contains C && Nat.blt fs.length 1000 then .nx env (S4.set n (.ins C (putA f p.2 fs))) else .bad
    | _ => .bad
  | _ => .bad
/-- a class of the store's instances stays what it is: the heap object at an instance -/
theorem es_fldaug {cs : List Str} {f : Str} {rd : V → V → Hp → VK → Prop} {g : Vl → Vl → Sto → Rs Vl} {C : Str} (hC : cs = [C]) (hc : FldOk F.K cs f) (ha : EV F W ta fa) (hv : EV F W te fb) (hr : R2s F W rd g) : ES F W (L2.sFldAug F.K ta te rd f) (sFldAug cs f g fa fb) := by
  subst hC
  intro σ H G env S hs re D P
  have P1 := P.out (k := fun p H2 G2 => ∀ v w, RV F.K G2 v p.1 → RV F.K G2 w p.2 → ∃ a dx fs, v = V.ref a ∧ H2 a = some (.ins (He.ga F.K C) dx fs) ∧ fs.length < 1000 ∧ D.nx σ (upd H2 a (.ins (He.ga F.K C) dx (L2.putF f w fs)))) re fun p S2 H2 G2 x2 hs2 q v w rv rw => by
    obtain ⟨x, y⟩ := p
    dsimp only at q rv rw
    split at q
    · rename_i n
      split at q
      · rename_i C' gs e
        split at q
        · rename_i hk
          rw [Bool.and_eq_true] at hk
          obtain rfl : C' = C := by simpa using hk.1
          obtain ⟨a, dx, fs, rfl, ea, eh, rf⟩ := hs2.ins rv e
          refine ⟨a, dx, fs, rfl, eh, by rw [rf.length]; exact Nat.le_of_ble_eq_true hk.2, ?_⟩
          exact q σ _ G2 Ext.refl (hs2.chg ea eh (.ins (rf.putF rw))) (re.up x2)
        · exact q.elim
      · exact q.elim
    · exact q.elim
  refine ha σ H G env S hs re _ (P1.bind fun x S1 H1 G1 x1 hs1 q1 v rv => ?_)
  -- the field
  unfold gFldC at q1
  split at q1
  rotate_left
  · exact q1.elim
  rename_i n
  split at q1
  rotate_left
  · exact q1.elim
  rename_i C' gs e
  split at q1
  rotate_left
  · exact q1.elim
  rename_i hin
  obtain rfl : C' = C := by simpa using hin
  split at q1
  rotate_left
  · exact q1.elim
  rename_i d el
  obtain ⟨a, dx, fs, rfl, ea, eh, rf⟩ := hs1.ins rv e
  obtain ⟨w, e1, rw'⟩ := rf.get el
  have hC := hc C' (by simp)
  refine ⟨a, _, dx, fs, w, rfl, eh, hC.1, hC.2, e1, ?_⟩
  have q2 : PG F W σ G1 _ ((fb env S1).bind fun z S3 => (g d z S3).bind fun u S4 => (Rs.ok (Vl.ref n, u) S4 : Rs (Vl × Vl))) := q1
  refine hv σ H1 G1 env S1 hs1 (re.up x1) _ (q2.bind fun z S2 H2 G2 x2 hs2 q3 y ry => ?_)
  refine hr σ H2 G2 S2 w y d z hs2 (rw'.up x2) ry _ (q3.bind fun u S3 H3 G3 x3 hs3 q4 v3 rv3 => ?_)
  obtain ⟨a', dx', fs', h1, h2, h3, h4⟩ := q4 H3 G3 Ext.refl hs3 (.ref a) v3 (rv.up (x2.trans x3)) rv3
  cases h1
  exact ⟨dx', fs', h2, h3, h4⟩
/-! ### methods of texts -/
def fM1 (g : Dt → Dt → Option Ow) (fa fb : Fe) : Fe := fun env S => (fa env S).bind fun x S1 => if isT x S1 then (fb env S1).bind fun y S2 => lift2 g x y S2 else .bad
theorem ev_m1 {r : V → List V → Hp → VK → Prop} {g : Dt → Dt → Option Ow} (ha : EV F W ta fa) (hb : EV F W tb fb) (hr : ∀ F' : DL.Act, F'.K = F.K → RM1 F' r g) : EV F W (tM1 r ta tb) (fM1 g fa fb) := by
  intro σ H G env S hs re Q q
  refine ha σ H G env S hs re _ (q.bind fun x S1 H1 G1 x1 hs1 q1 v rv => ?_)
  split at q1
  · rename_i hk
    have hv : ∃ a, v = .str a := by
      unfold isT at hk
      split at hk
      · cases rv
        exact ⟨_, rfl⟩
      · cases hk
    refine ⟨hv, ?_⟩
    refine hb σ H1 G1 env S1 hs1 (re.up x1) _ (q1.bind fun y S2 H2 G2 x2 hs2 q2 w rw => ?_)
    have h2 : R2s F W (fun v w H Q => r v [w] H Q) (lift2 g) := r2_lift fun F' h H B v w x y o G rx ry e Q q => (hr F' h H B v w x y o G rx ry e).2 Q q
    exact h2 σ H2 G2 S2 v w x y hs2 (rv.up x2) rw Q q2
  · exact q1.elim
/-! ### isinstance(x, T), T a built-in type -/
def tyS (x : Vl) (S : Sto) : Option String := match x with
  | .non => some "NoneType"
  | .bl _ => some "bool"
  | .int _ => some "int"
  | .str _ => some "str"
  | .tup _ => some "tuple"
  | .fz _ => some "list"
  | .ref n => match S[n]? with
    | some (.lst _) => some "list"
    | some (.dK _) => some "dict"
    | some (.dT _) => some "dict"
    | _ => none
  | .glo _ => none
theorem tyX_tup {K : PySem.W.Frag} {H : Hp} {a : Addr} {xs : List V} (h : SqT K H a xs) : TyX K H (.ref a) (.type "tuple") := by
  rcases h with (h | ⟨o, h⟩) | ⟨o, its, n, h1, h2, _⟩
  · exact .base (.tup h)
  · exact .fTuple h
  · exact .kTuple h1 h2
theorem tyX_lst {K : PySem.W.Frag} {H : Hp} {a : Addr} {xs : List V} (h : SqL K H a xs) : TyX K H (.ref a) (.type "list") := by
  rcases h with (h | ⟨o, h⟩) | ⟨o, its, n, h1, h2, _⟩
  · exact .base (.lst h)
  · exact .base (.frz h)
  · exact .kList h1 h2
theorem tyS_ok {H : Hp} {G : Gd} {S : Sto} {v : V} {x : Vl} {T : String} (hs : HS F H G S) (r : RV F.K G v x) (e : tyS x S = some T) : TyX F.K H v (.type T) := by
  cases x with
  | non => cases r; cases e; exact .base .non
  | bl b => cases r; cases e; exact .base (.bl b)
  | int b => cases r; cases e; exact .base (.int b)
  | str b => cases r; cases e; exact .base (.str _)
  | tup ds =>
    cases e
    cases r with
    | tup h1 h2 => exact tyX_tup (hs.gr.sqT h1)
  | fz ds =>
    cases e
    cases r with
    | fz h1 h2 => exact tyX_lst (hs.gr.sqL h1)
  | ref n =>
    simp only [tyS] at e
    split at e
    · rename_i xs hn
      cases e
      obtain ⟨a, vs, rfl, ea, eh, r1⟩ := hs.lst r hn
      exact .base (.lst eh)
    · rename_i xs hn
      cases e
      cases r with
      | ref ea =>
        obtain ⟨b, u, e1, e2, e3⟩ := hs.obj n _ hn
        rw [ea] at e1
        cases e1
        cases e3 with
        | dK h => exact .base (.dK e2)
    · rename_i xs hn
      cases e
      cases r with
      | ref ea =>
        obtain ⟨b, u, e1, e2, e3⟩ := hs.obj n _ hn
        rw [ea] at e1
        cases e1
        cases e3 with
        | dT h => exact .base (.dT e2)
    · cases e
  | glo x => cases e
def gIsi (T : String) (x : Vl) (S : Sto) : Rs Vl := match tyS x S with
  | some t => match kitB t T with
    | some b => .ok (.bl b) S
    | none => .bad
  | none => .bad
def fIsi (T : String) (fa : Fe) : Fe := fun env S => (fa env S).bind (gIsi T)
theorem ev_isi {T : String} (ha : EV F W ta fa) : EV F W (tCB (rIsi F.K) (tCons ta (tCons (tC (.ty T)) tNil))) (fIsi T fa) := by
  intro σ H G env S hs re Q q
  refine ha σ H G env S hs re _ (q.bind fun x S1 H1 G1 x1 hs1 q1 v rv => ?_)
  unfold gIsi at q1
  split at q1
  · rename_i t ht
    split at q1
    · rename_i b hb
      exact ⟨v, .ty T, .type t, .type T, b, rfl, .ty T, tyS_ok hs1 rv ht, kit_ty hb, q1 H1 G1 Ext.refl hs1 _ (.bl b)⟩
    · exact q1.elim
  · exact q1.elim
end
end SL
namespace SL
open PySem PySem.Spec PyProof.Rows L2 DL
theorem rv_lit {K : PySem.W.Frag} {x : Str} {s : List Nat} (h : x.cps.toList = s) : ∀ G : Gd, RV K G (.str x) (.str s) := fun G => by
  have := RV.str (K := K) (G := G) s
  rw [← h] at this ⊢
  simpa using this
end SL
namespace SL
open PySem PySem.Spec PyProof.Rows L2 DL
theorem xisi {X : Cx} (K : PySem.W.Frag) (h : X.K = K := by rfl) : CallR X (.builtin "isinstance") (rIsi K) := h ▸ call_isi
end SL
set_option Elab.async false
set_option linter.all false
set_option maxRecDepth 100000
/-! SL10: dicts of the written part (texts to values) read; int(text) -/
namespace SL
open PySem PySem.Spec PyProof.Rows L2 DL
/-- the module's name x is a dict of the written part that holds kd -/
structure KD (K : PySem.W.Frag) (w : World) (x : Str) (kd : List (List Nat × Vl)) : Prop where
  d : ∃ es n, KDict K w (He.ga K x) es n
  at_ : ∀ (s : List Nat) (e : Vl), kd.lookup s = some e → ∃ (u : Value) (v : V), PySem.W.nsIn K (He.ga K x) ⟨s.toArray⟩ = some (some u) ∧ RelV v u ∧ ∀ G : Gd, RV K G v e
  no : ∀ s : List Nat, kd.lookup s = none → PySem.W.nsIn K (He.ga K x) ⟨s.toArray⟩ = some none
section
variable {X : Cx} {A : Around} {E : Value → Shared → Prop}
theorem kd_get2 {pins : List (Addr × Obj)} {σ : L2.St} {H : Hp} {s : Shared} {d : Addr} {es : Array DictEntry} {n : Nat} {z : Str} {t : Tok} {r : Option Value} {fv : Value} {Q : Value → Shared → Prop} (D : KDict X.K X.w d es n) (I : Inv X pins σ H s)
    (e : PySem.W.nsIn X.K d z = some r) (h : ∀ s', Inv X pins σ H s' → Q (r.getD fv) s') : wpAny (model X.prog X.w) A (call (.builtin "dict.get") [.ref d, .str z t, fv]) Q E s := by
  have m := PySem.W.mapOf_K (prog := X.prog) I.kIn D.at_ D.lit
  refine call_meetsIn PySem.F.slot_dict_get m.typeIs PySem.F.entry_dict_get (PySem.F.args_dict_get_3 _ _ _) (meets_dict_get_default (strKind X.prog X.w) d (PySem.strKind_is X.prog X.w z t) D.low fv) ⟨_, m, ?_⟩
  rw [PySem.W.find_K D.at_ e]
  exact h _ (I.tok _)
def tKGet2 (K : PySem.W.Frag) (d : Addr) (ty tx : TE) : TE := fun σ H Q => ty σ H fun y H2 => tx σ H2 fun z H3 => ∃ (a : Str) (r : Option Value) (v : V), y = .str a ∧ PySem.W.nsIn K d a = some r ∧ (match r with | some u => RelV v u | none => v = z) ∧ Q v H3
theorem pe_kget2 {e f : Expr} {apos cpos : Pos} {x : Str} {p : Pos} {ty tx : TE} {d : Addr} (D : ∃ es n, KDict X.K X.w d es n) (hg : Gl X x) (hm : X.mg x = some (.ref d)) (he : PE X e ty) (hf : PE X f tx) (m : M2 X (.Name x p) "get" apos e f cpos) (hdb : (x == ("__debug__" : Str)) = false := by decide) :
    PE X (.Call (.Attribute (.Name x p) "get" apos) [e, f] [] cpos) (tKGet2 X.K d ty tx) := by
  obtain ⟨es, n, D⟩ := D
  refine ⟨fun pins s σ H Q I h => ?_⟩
  have po : PE X (.Name x p) (tC (.ref d)) := pe_glob (v := .ref d) hg hm rfl hdb
  refine wpAny_Call_method m.base m.few m.line PySem.F.plainAttrs_dict PySem.F.slot_dict_get PySem.F.type_dict_get (thn (po.run pins s σ H (fun y H1 => y = .ref d ∧ tKGet2 X.K d ty tx σ H1 Q) I ⟨rfl, h⟩) fun u s1 ⟨y, H1, I1, rx, ex, q1⟩ => ?_)
  subst ex
  obtain rfl : u = Value.ref d := rx
  have t1 := kd_type D I1
  refine ⟨t1, fun b q => ?_, ?_⟩
  · cases q
    exact ⟨_, I1.kIn _ _ D.at_, rfl⟩
  rw [m.trees]
  refine Calls.callWith_builtin rfl (Calls.evalArgs_plain (Calls.spliced_cons (thn (he.run pins s1 σ H1 _ I1 q1) fun iv s2 ⟨y, H2, I2, ry, q2⟩ =>
    Calls.spliced_cons (thn (hf.run pins s2 σ H2 _ I2 q2) fun fv s3 ⟨z, H3, I3, rz, a, r, v, ey, en, hv, q3⟩ => Calls.spliced_nil ?_))))
  subst ey
  obtain ⟨t, rfl⟩ := ry
  refine kd_get2 D I3 en fun s4 I4 => ⟨v, H3, I4, ?_, q3⟩
  cases r with
  | none => rw [hv]; exact rz
  | some u => exact hv
end
section
variable {F : SL.Act} {W : WX} {te ta tb : TE} {f fa fb : Fe} {w : World} {x : Str} {kd : List (List Nat × Vl)}
/-- NAME.get(a, b) -/
def fKGet2 (kd : List (List Nat × Vl)) (fa fb : Fe) : Fe := fun env S => (fa env S).bind fun y S1 => (fb env S1).bind fun z S2 => match y with
  | .str s => match kd.lookup s with
    | some e => .ok e S2
    | none => .ok z S2
  | _ => .bad
theorem ev_kget2 (D : KD F.K w x kd) (ha : EV F W ta fa) (hb : EV F W tb fb) : EV F W (tKGet2 F.K (He.ga F.K x) ta tb) (fKGet2 kd fa fb) := by
  intro σ H G env S hs re Q q
  refine ha σ H G env S hs re _ (q.bind fun y S1 H1 G1 x1 hs1 q1 v rv => ?_)
  refine hb σ H1 G1 env S1 hs1 (re.up x1) _ (q1.bind fun z S2 H2 G2 x2 hs2 q2 v2 rv2 => ?_)
  split at q2
  · rename_i s
    cases rv
    split at q2
    · rename_i e h
      obtain ⟨u, v3, h1, h2, h3⟩ := D.at_ s e h
      exact ⟨_, some u, v3, rfl, h1, h2, q2 H2 G2 Ext.refl hs2 v3 (h3 G2)⟩
    · rename_i h
      exact ⟨_, none, v2, rfl, D.no s h, rfl, q2 H2 G2 Ext.refl hs2 v2 rv2⟩
  · exact q2.elim
/-- a in NAME -/
def gKIn (x : Str) (kd : List (List Nat × Vl)) (y z : Vl) (S : Sto) : Rs Vl := match y, z with
  | .str s, .glo n => if n = x then .ok (.bl (kd.lookup s).isSome) S else .bad
  | _, _ => .bad
def rKIn (K : PySem.W.Frag) (d : Addr) : R2 := fun x y H Q => ∃ (z : Str) (r : Option Value), x = .str z ∧ y = .ref d ∧ PySem.W.nsIn K d z = some r ∧ Q (.bl r.isSome) H
theorem op_kin {X : Cx} {d : Addr} (K : PySem.W.Frag) (D : ∃ es n, KDict K X.w d es n) (h : X.K = K := by rfl) : OpR X (compareOp .In) (rKIn K d) := by
  subst h
  obtain ⟨es, n, D⟩ := D
  exact op_in_kd D
theorem r2_kin (D : KD F.K w x kd) : R2s F W (rKIn F.K (He.ga F.K x)) (gKIn x kd) := by
  intro σ H G S v v2 y z hs ry rz Q q
  unfold gKIn at q
  split at q
  · rename_i s n
    split at q
    · rename_i hn
      subst hn
      cases ry; cases rz
      cases h : kd.lookup s with
      | none =>
        rw [h] at q
        exact ⟨_, none, rfl, rfl, D.no s h, q H G Ext.refl hs _ (.bl _)⟩
      | some e =>
        rw [h] at q
        obtain ⟨u, v3, h1, h2, h3⟩ := D.at_ s e h
        exact ⟨_, some u, rfl, rfl, h1, q H G Ext.refl hs _ (.bl _)⟩
    · exact q.elim
  · exact q.elim
/-! ### int(text) -/
def gInt (xs : List Vl) (S : Sto) : Rs Vl := match xs with
  | [.str s] => if Nat.ble s.length 640 then match PySem.intText? ⟨s.toArray⟩ with
      | some n => .ok (.int n) S
      | none => .bad
    else .bad
  | _ => .bad
def rInt : List V → Hp → VK → Prop := fun xs H Q => ∃ (a : Str) (n : Int), xs = [.str a] ∧ PySem.intText? a = some n ∧ a.length ≤ 640 ∧ Q (.int n) H
theorem xint {X : Cx} : CallR X (.type "int") rInt := call_int_str
theorem rc_int : RCs F W rInt gInt := by
  intro σ H G S vs xs hs r Q q
  unfold gInt at q
  split at q
  · rename_i s
    split at q
    · rename_i hz
      obtain ⟨v, rfl, rv⟩ := r.one
      cases rv
      split at q
      · rename_i n hn
        exact ⟨_, n, rfl, hn, by rw [str_len]; exact Nat.le_of_ble_eq_true hz, q H G Ext.refl hs _ (.int n)⟩
      · exact q.elim
    · exact q.elim
  · exact q.elim
/-! ### NAME[a] -/
def gKIx (x : Str) (kd : List (List Nat × Vl)) (y z : Vl) (S : Sto) : Rs Vl := match y, z with
  | .glo n, .str s => if n = x then match kd.lookup s with
      | some e => .ok e S
      | none => .bad
    else .bad
  | _, _ => .bad
theorem xixd {X : Cx} (K : PySem.W.Frag) (w : World) (h : X.K = K := by rfl) (h2 : X.w = w := by rfl) : IxR X (rIxD K w) := by
  subst h h2
  exact ix_kdict
theorem r2_kix (D : KD F.K w x kd) : R2s F W (rIxD F.K w) (gKIx x kd) := by
  intro σ H G S v v2 y z hs ry rz Q q
  unfold gKIx at q
  split at q
  · rename_i n s
    split at q
    · rename_i hn
      subst hn
      cases ry; cases rz
      split at q
      · rename_i e h
        obtain ⟨u, v3, h1, h2, h3⟩ := D.at_ s e h
        obtain ⟨es, m, KDD⟩ := D.d
        exact ⟨_, _, v3, rfl, rfl, ⟨es, m, u, KDD.at_, KDD.lit, h1, h2⟩, q H G Ext.refl hs _ (h3 G)⟩
      · exact q.elim
    · exact q.elim
  · exact q.elim
end
end SL
set_option Elab.async false
set_option linter.all false
set_option maxRecDepth 100000
/-! SL11: dicts of the store (keys ints and texts); list.pop(i) -/
namespace SL
open PySem PySem.Spec PyProof.Rows L2 DL
section
variable {κ : Type} [DecidableEq κ]
def valA (es : List (κ × Vl)) (k : κ) : Option Vl := (es.find? fun kv => decide (kv.1 = k)).map (·.2)
def putKA (es : List (κ × Vl)) (k : κ) (v : Vl) : List (κ × Vl) :=
  if (es.any fun kv => decide (kv.1 = k)) = true then es.map (fun kv => if kv.1 = k then (kv.1, v) else kv) else es ++ [(k, v)]
variable {K : PySem.W.Frag} {G : Gd}
theorem RF.valSome {k : κ} : ∀ {vs : List (κ × V)} {es : List (κ × Vl)} {d : Vl}, RF K G vs es → valA es k = some d → ∃ v, valV vs k = some v ∧ RV K G v d
  | _, [], d, h, e => by simp [valA] at e
  | _, (k0, d0) :: es, d, h, e => by
    cases h with
    | cons h1 h2 =>
      unfold valA at e
      unfold valV
      rw [List.find?_cons] at e ⊢
      by_cases q : k0 = k
      · simp only [q, decide_true] at e ⊢
        simp only [Option.map_some, Option.some.injEq] at e
        subst e
        exact ⟨_, rfl, h1⟩
      · simp only [q, decide_false] at e ⊢
        exact RF.valSome h2 e
theorem RF.valNone {k : κ} : ∀ {vs : List (κ × V)} {es : List (κ × Vl)}, RF K G vs es → valA es k = none → valV vs k = none
  | _, [], h, e => by cases h; rfl
  | _, (k0, d0) :: es, h, e => by
    cases h with
    | cons h1 h2 =>
      unfold valA at e
      unfold valV
      rw [List.find?_cons] at e ⊢
      by_cases q : k0 = k
      · simp only [q, decide_true] at e
        cases e
      · simp only [q, decide_false] at e ⊢
        exact RF.valNone h2 e
theorem RF.any {k : κ} : ∀ {vs : List (κ × V)} {es : List (κ × Vl)}, RF K G vs es → (vs.any fun kv => decide (kv.1 = k)) = es.any fun kv => decide (kv.1 = k)
  | _, [], h => by cases h; rfl
  | _, (k0, d0) :: es, h => by
    cases h with
    | cons h1 h2 => rw [List.any_cons, List.any_cons, RF.any h2]
theorem RF.mapPut {k : κ} {v : V} {d : Vl} (r : RV K G v d) : ∀ {vs : List (κ × V)} {es : List (κ × Vl)}, RF K G vs es → RF K G (vs.map fun kv => if kv.1 = k then (kv.1, v) else kv) (es.map fun kv => if kv.1 = k then (kv.1, d) else kv)
  | _, [], h => by cases h; exact .nil
  | _, (k0, d0) :: es, h => by
    cases h with
    | cons h1 h2 =>
      rw [List.map_cons, List.map_cons]
      by_cases q : k0 = k
      · simp only [q, if_true]
        exact .cons r (RF.mapPut r h2)
      · simp only [q, if_false]
        exact .cons h1 (RF.mapPut r h2)
theorem RF.app {vs ws : List (κ × V)} {es fs : List (κ × Vl)} (h : RF K G vs es) (g : RF K G ws fs) : RF K G (vs ++ ws) (es ++ fs) := by
  induction h with
  | nil => exact g
  | cons h1 _ ih => exact .cons h1 ih
theorem RF.putK {k : κ} {v : V} {d : Vl} {vs : List (κ × V)} {es : List (κ × Vl)} (h : RF K G vs es) (r : RV K G v d) : RF K G (L2.putK vs k v) (putKA es k d) := by
  unfold L2.putK putKA
  rw [h.any]
  split
  · exact h.mapPut r
  · exact h.app (.cons r .nil)
end
def mergeA (es more : List (Key × Vl)) : List (Key × Vl) := more.foldl (fun acc kv => putKA acc kv.1 kv.2) es
theorem RF.merge {K : PySem.W.Frag} {G : Gd} : ∀ {more : List (Key × V)} {ds : List (Key × Vl)} {kvs : List (Key × V)} {es : List (Key × Vl)}, RF K G more ds → RF K G kvs es → RF K G (mergeK kvs more) (mergeA es ds)
  | _, [], _, _, h, g => by cases h; exact g
  | _, (k, d) :: ds, _, _, h, g => by
    cases h with
    | cons h1 h2 =>
      have := RF.merge h2 (g.putK (k := k) h1)
      unfold mergeK mergeA at this ⊢
      rw [List.foldl_cons, List.foldl_cons]
      exact this
def keyOf : Vl → Option Key
  | .int i => some (.inl i)
  | .str s => some (.inr ⟨s.toArray⟩)
  | _ => none
theorem keyOf_ok {K : PySem.W.Frag} {G : Gd} {v : V} {x : Vl} {k : Key} (r : RV K G v x) (e : keyOf x = some k) : v = kV k := by
  cases x with
  | int i => cases r; cases e; rfl
  | str s => cases r; cases e; rfl
  | _ => cases e
section
variable {F : SL.Act} {W : WX} {te ta tb : TE} {f fa fb : Fe}
/-! ### displays -/
abbrev Fpp := SEnv → Sto → Rs (List (Vl × Vl))
inductive VVl (K : PySem.W.Frag) (G : Gd) : List (V × V) → List (Vl × Vl) → Prop
  | nil : VVl K G [] []
  | cons {v w : V} {x y : Vl} {ps : List (V × V)} {qs : List (Vl × Vl)} : RV K G v x → RV K G w y → VVl K G ps qs → VVl K G ((v, w) :: ps) ((x, y) :: qs)
def EPP (F : SL.Act) (W : WX) (trs : List (TE × TE)) (f : Fpp) : Prop := ∀ (σ : L2.St) (H : Hp) (G : Gd) (env : SEnv) (S : Sto), HS F H G S → RE F.K G σ env → ∀ Q : List (V × V) → Hp → Prop, PG F W σ G (fun xs H' G' => ∀ vs, VVl F.K G' vs xs → Q vs H') (f env S) → tPairs trs σ H Q
def ppNil : Fpp := fun _ S => .ok [] S
def ppCons (f g : Fe) (h : Fpp) : Fpp := fun env S => (f env S).bind fun x S1 => (g env S1).bind fun y S2 => (h env S2).bind fun xs S3 => .ok ((x, y) :: xs) S3
theorem epp_nil : EPP F W [] ppNil := fun σ H G env S hs re Q q => q H G Ext.refl hs [] .nil
theorem epp_cons {trs : List (TE × TE)} {h : Fpp} (ha : EV F W ta fa) (hb : EV F W tb fb) (hr : EPP F W trs h) : EPP F W ((ta, tb) :: trs) (ppCons fa fb h) := by
  intro σ H G env S hs re Q q
  refine ha σ H G env S hs re _ (q.bind fun x S1 H1 G1 x1 hs1 q1 v rv => ?_)
  refine hb σ H1 G1 env S1 hs1 (re.up x1) _ (q1.bind fun y S2 H2 G2 x2 hs2 q2 w rw => ?_)
  refine hr σ H2 G2 env S2 hs2 ((re.up x1).up x2) _ (q2.bind fun xs S3 H3 G3 x3 hs3 q3 vs rvs => ?_)
  exact q3 H3 G3 Ext.refl hs3 _ (.cons (rv.up (x2.trans x3)) (rw.up x3) rvs)
def keysOf : List (Vl × Vl) → Option (List (Key × Vl))
  | [] => some []
  | (x, y) :: r => match keyOf x with
    | some k => match keysOf r with
      | some ks => some ((k, y) :: ks)
      | none => none
    | none => none
theorem keysOf_ok {K : PySem.W.Frag} {G : Gd} : ∀ {ps : List (V × V)} {qs : List (Vl × Vl)} {ks : List (Key × Vl)}, VVl K G ps qs → keysOf qs = some ks → ∃ kvs : List (Key × V), ps = kvs.map (fun kv => (kV kv.1, kv.2)) ∧ RF K G kvs ks ∧ kvs.length = qs.length
  | _, [], ks, h, e => by cases h; cases e; exact ⟨[], rfl, .nil, rfl⟩
  | _, (x, y) :: qs, ks, h, e => by
    unfold keysOf at e
    split at e
    · rename_i k hk
      split at e
      · rename_i ks' hks
        cases e
        cases h with
        | cons h1 h2 h3 =>
          obtain ⟨kvs, e1, r, l⟩ := keysOf_ok h3 hks
          refine ⟨(k, _) :: kvs, ?_, .cons h2 r, by simp [l]⟩
          rw [List.map_cons, ← e1, keyOf_ok h1 hk]
      · cases e
    · cases e
def fDisp (h : Fpp) : Fe := fun env S => (h env (S ++ [.dK []])).bind fun qs S2 => match S2[S.length]? with
  | some (.dK []) => match keysOf qs with
    | some ks => if Nat.ble qs.length 15 then .ok (.ref S.length) (S2.set S.length (.dK (mergeA [] ks))) else .bad
    | none => .bad
  | _ => .bad
theorem ev_disp {trs : List (TE × TE)} {h : Fpp} (hr : EPP F W trs h) : EV F W (tDisp trs) (fDisp h) := by
  intro σ H G env S hs re Q q
  intro p hp
  obtain ⟨hs1, x1, l1⟩ := hs.alloc (u := .dK []) (o := .dK []) hp (.dK .nil)
  refine hr σ _ _ env _ hs1 (re.up x1) _ ((PG.ext x1 q).bind fun qs S2 H2 G2 x2 hs2 q2 ps rps => ?_)
  have l2 := x2.pre _ _ l1
  split at q2
  · rename_i hn
    split at q2
    · rename_i ks hk
      split at q2
      · rename_i hz
        obtain ⟨kvs, e1, r, l⟩ := keysOf_ok rps hk
        obtain ⟨a, u, ea, eh, ro⟩ := hs2.obj _ _ hn
        rw [l2] at ea
        cases ea
        cases ro with
        | dK hro =>
          cases hro
          exact ⟨eh, kvs, e1, by rw [l]; exact Nat.le_of_ble_eq_true hz, q2 _ G2 Ext.refl (hs2.chg l2 eh (.dK (r.merge .nil))) _ (.ref l2)⟩
      · exact q2.elim
    · exact q2.elim
  · exact q2.elim
/-! ### d[k], k in d -/
def gDGet (x y : Vl) (S : Sto) : Rs Vl := match x with
  | .ref n => match S[n]? with
    | some (.dK es) => match keyOf y with
      | some k => match valA es k with
        | some d => .ok d S
        | none => .bad
      | none => .bad
    | _ => .bad
  | _ => .bad
theorem HS.dK {H : Hp} {G : Gd} {S : Sto} (hs : HS F H G S) {v : V} {n : Nat} {es : List (Key × Vl)} (r : RV F.K G v (.ref n)) (e : S[n]? = some (.dK es)) : ∃ a kvs, v = .ref a ∧ G.m[n]? = some a ∧ H a = some (.dK kvs) ∧ RF F.K G kvs es := by
  cases r with
  | ref ea =>
    rename_i a
    obtain ⟨b, u, e1, e2, e3⟩ := hs.obj n _ e
    rw [ea] at e1
    cases e1
    cases e3 with
    | dK h => exact ⟨a, _, rfl, ea, e2, h⟩
theorem ev_dget (ha : EV F W ta fa) (hb : EV F W tb fb) : EV F W (tDGet ta tb) (fOp gDGet fa fb) := by
  intro σ H G env S hs re Q q
  refine ha σ H G env S hs re _ (q.bind fun x S1 H1 G1 x1 hs1 q1 v rv => ?_)
  refine hb σ H1 G1 env S1 hs1 (re.up x1) _ (q1.bind fun y S2 H2 G2 x2 hs2 q2 w rw => ?_)
  unfold gDGet at q2
  split at q2
  · split at q2
    · rename_i n es hn
      split at q2
      · rename_i k hk
        split at q2
        · rename_i d hd
          obtain ⟨a, kvs, rfl, ea, eh, rf⟩ := hs2.dK (rv.up x2) hn
          obtain ⟨u, e1, ru⟩ := rf.valSome hd
          have := keyOf_ok rw hk
          subst this
          exact ⟨a, u, rfl, .inl ⟨kvs, k, .inl eh, rfl, e1.symm⟩, q2 H2 G2 Ext.refl hs2 _ ru⟩
        · exact q2.elim
      · exact q2.elim
    · exact q2.elim
  · exact q2.elim
/-! ### l.pop(i) -/
def mPopAt : Vl → List Vl → Sto → Rs Vl := fun x xs S => match x, xs with
  | .ref n, [.int i] => match S[n]? with
    | some (.lst ds) => if ibd 1000000000 i then match PySem.seqIndex? i ds.length with
        | some k => match ds[k]? with
          | some y => .ok y (S.set n (.lst (ds.eraseIdx k)))
          | none => .bad
        | none => .bad
      else .bad
    | _ => .bad
  | _, _ => .bad
theorem RVs.erase {K : PySem.W.Frag} {G : Gd} : ∀ {vs : List V} {ds : List Vl} (k : Nat), RVs K G vs ds → RVs K G (vs.eraseIdx k) (ds.eraseIdx k)
  | _, [], _, h => by cases h; exact .nil
  | _, _ :: _, 0, h => by
    cases h with
    | cons _ h2 => exact h2
  | _, _ :: _, k + 1, h => by
    cases h with
    | cons h1 h2 => exact .cons h1 (RVs.erase k h2)
theorem rm_popAt : RMs F W rPopAt mPopAt := by
  intro σ H G S v x vs xs hs rx rs Q q
  unfold mPopAt at q
  split at q
  · rename_i n i
    split at q
    · rename_i ds e
      split at q
      · rename_i hb
        split at q
        · rename_i k hk
          split at q
          · rename_i y hy
            obtain ⟨a, ws, rfl, ea, eh, r1⟩ := hs.lst rx e
            obtain ⟨u, rfl, ru⟩ := rs.one
            cases ru
            have hb := ibd_ok hb
            obtain ⟨z, hz, rz⟩ := r1.get hy
            exact ⟨a, ws, i, k, z, rfl, rfl, eh, by omega, by omega, by rw [r1.length]; exact hk, hz, q _ G Ext.refl (hs.chg ea eh (.lst (r1.erase k))) _ rz⟩
          · exact q.elim
        · exact q.elim
      · exact q.elim
    · exact q.elim
  · exact q.elim
end
end SL
set_option Elab.async false
set_option linter.all false
set_option maxRecDepth 100000
/-! SL12: + of lists and tuples of any values, a list times an int -/
namespace SL
open PySem PySem.Spec PyProof.Rows L2 DL
section
variable {F : SL.Act} {W : WX} {te ta tb : TE} {f fa fb : Fe}
def gAddS (x y : Vl) (S : Sto) : Rs Vl := match x, y with
  | .ref n, .ref k => match S[n]? with
    | some (.lst xs) => match S[k]? with
      | some (.lst ys) => if Nat.ble (xs.length + ys.length) 16777216 then .ok (.ref S.length) (S ++ [.lst (xs ++ ys)]) else .bad
      | _ => .bad
    | _ => .bad
  | .tup xs, .tup ys => if Nat.ble (xs.length + ys.length) 16777216 then .ok (.tup (xs ++ ys)) S else .bad
  | _, _ => lift2 gAdd x y S
theorem r2_addS : R2s F W (rAddU F.K) gAddS := by
  intro σ H G S v w x y hs rx ry Q q
  unfold gAddS at q
  split at q
  · rename_i n k
    split at q
    · rename_i xs hn
      split at q
      · rename_i ys hk
        split at q
        · rename_i hz
          obtain ⟨a, vs, rfl, ea, eh, r1⟩ := hs.lst rx hn
          obtain ⟨b, ws, rfl, eb, ebh, r2⟩ := hs.lst ry hk
          refine .inr (.inr (.inl ⟨a, b, vs, ws, rfl, rfl, .inl (.inl eh), .inl (.inl ebh), by rw [r1.length, r2.length]; exact szl hz, fun p hp => ?_⟩))
          obtain ⟨hs4, x4, l4⟩ := hs.alloc (u := .lst (vs ++ ws)) (o := .lst (xs ++ ys)) hp (.lst (r1.app r2))
          exact q _ _ x4 hs4 _ (.ref l4)
        · exact q.elim
      · exact q.elim
    · exact q.elim
  · rename_i xs ys
    split at q
    · rename_i hz
      cases rx with
      | tup h1 r1 =>
        cases ry with
        | tup h2 r2 =>
          rename_i a xs' b ys'
          have l1 := r1.length
          have l2 := r2.length
          refine .inr (.inr (.inr ⟨a, b, xs', ys', rfl, rfl, hs.gr.sqT h1, hs.gr.sqT h2, by rw [l1, l2]; exact szl hz, fun hx => ?_, fun hx hy => ?_, fun _ _ p hp => ?_⟩))
          · subst hx
            have e0 : xs = [] := List.eq_nil_of_length_eq_zero (by rw [← l1]; rfl)
            subst e0
            exact q H G Ext.refl hs _ (.tup h2 r2)
          · subst hy
            have e0 : ys = [] := List.eq_nil_of_length_eq_zero (by rw [← l2]; rfl)
            subst e0
            exact q H G Ext.refl hs _ (by rw [List.append_nil]; exact .tup h1 r1)
          · obtain ⟨hs4, x4⟩ := hs.put (u := .tup (xs' ++ ys')) hp (fun ps z => by cases z)
            exact q _ _ x4 hs4 _ (.tup (.inl (.inl upd_same)) ((r1.app r2).up x4))
    · exact q.elim
  · exact r2_add σ H G S v w x y hs rx ry Q q
theorem RVs.rep {K : PySem.W.Frag} {G : Gd} {vs : List V} {ds : List Vl} (h : RVs K G vs ds) : ∀ n : Nat, RVs K G (List.replicate n vs).flatten (List.replicate n ds).flatten
  | 0 => .nil
  | n + 1 => by
    rw [List.replicate_succ, List.replicate_succ, List.flatten_cons, List.flatten_cons]
    exact h.app (RVs.rep h n)
def gRepS (x y : Vl) (S : Sto) : Rs Vl := match x, y with
  | .ref n, .int k => match S[n]? with
    | some (.lst xs) => if k24 k && Nat.ble (xs.length * k.toNat) 16777216 then .ok (.ref S.length) (S ++ [.lst (List.replicate k.toNat xs).flatten]) else .bad
    | _ => .bad
  | _, _ => .bad
theorem r2_rep : R2s F W rRep gRepS := by
  intro σ H G S v w x y hs rx ry Q q
  unfold gRepS at q
  split at q
  · rename_i n k
    split at q
    · rename_i xs hn
      split at q
      · rename_i hz
        rw [Bool.and_eq_true] at hz
        have hk := k24_ok hz.1
        obtain ⟨a, vs, rfl, ea, eh, r1⟩ := hs.lst rx hn
        cases ry
        refine ⟨a, k, vs, rfl, rfl, eh, by omega, by omega, by rw [r1.length]; exact szl hz.2, fun p hp => ?_⟩
        obtain ⟨hs4, x4, l4⟩ := hs.alloc (u := .lst (List.replicate k.toNat vs).flatten) (o := .lst (List.replicate k.toNat xs).flatten) hp (.lst (r1.rep _))
        exact q _ _ x4 hs4 _ (.ref l4)
      · exact q.elim
    · exact q.elim
  · exact q.elim
end
end SL
namespace SL
open PySem PySem.Spec PyProof.Rows L2 DL
/-- who promises nothing keeps it -/
theorem fn_bad {P : Program} {w : World} {K : PySem.W.Frag} {mg : Str → Option Value} {base : Heap} {CX : CXT} {k : Nat} {f : Addr} {fd : FuncData} {ps : List Str} {F : SL.Act} : FnOk P w K mg base CX k f fd ps (spS F (fun _ _ => .bad)) :=
  ⟨fun vs H Q E h => by
    obtain ⟨G, xs, S, hs, r, q⟩ := h
    exact q.elim, fun A outer s H args us vs Q E _ _ _ _ h => by
    obtain ⟨G, xs, S, hs, r, q⟩ := h
    exact q.elim⟩
end SL
set_option Elab.async false
set_option linter.all false
set_option maxRecDepth 100000
/-! SL13: objects that nobody holds any more are forgotten behind a call -/
namespace SL
open PySem PySem.Spec PyProof.Rows L2 DL
section
variable {K : PySem.W.Frag} {G G' : Gd}
mutual
theorem RV.back (x : Ext G G') : ∀ {d : Vl} {v0 v : V}, RV K G v0 d → RV K G' v d → RV K ⟨G'.b, G.m⟩ v d
  | .non, _, _, _, h => by cases h; exact .non
  | .bl _, _, _, _, h => by cases h; exact .bl _
  | .int _, _, _, _, h => by cases h; exact .int _
  | .str _, _, _, _, h => by cases h; exact .str _
  | .tup ds, _, _, h0, h => by
    cases h0 with
    | tup _ k0 => cases h with
      | tup h1 h2 => exact .tup h1 (RVs.back x k0 h2)
  | .fz ds, _, _, h0, h => by
    cases h0 with
    | fz _ k0 => cases h with
      | fz h1 h2 => exact .fz h1 (RVs.back x k0 h2)
  | .ref n, _, _, h0, h => by
    cases h0 with
    | ref e0 => cases h with
      | ref e1 =>
        have := x.pre _ _ e0
        rw [e1] at this
        cases this
        exact .ref e0
  | .glo _, _, _, _, h => by cases h; exact .glo
theorem RVs.back (x : Ext G G') : ∀ {ds : List Vl} {vs0 vs : List V}, RVs K G vs0 ds → RVs K G' vs ds → RVs K ⟨G'.b, G.m⟩ vs ds
  | [], _, _, _, h => by cases h; exact .nil
  | d :: ds, _, _, h0, h => by
    cases h0 with
    | cons a0 b0 => cases h with
      | cons a b => exact .cons (RV.back x a0 a) (RVs.back x b0 b)
end
theorem RF.back {κ : Type} (x : Ext G G') : ∀ {ds : List (κ × Vl)} {vs0 vs : List (κ × V)}, RF K G vs0 ds → RF K G' vs ds → RF K ⟨G'.b, G.m⟩ vs ds
  | [], _, _, _, h => by cases h; exact .nil
  | _ :: ds, _, _, h0, h => by
    cases h0 with
    | cons a0 b0 => cases h with
      | cons a b => exact .cons (a0.back x a) (RF.back x b0 b)
theorem RO.back (x : Ext G G') {u0 u : HO} {o : AObj} (h0 : RO K G u0 o) (h : RO K G' u o) : RO K ⟨G'.b, G.m⟩ u o := by
  cases h0 with
  | lst k0 => cases h with
    | lst k => exact .lst (k0.back x k)
  | ins k0 => cases h with
    | ins k => exact .ins (k0.back x k)
  | dK k0 => cases h with
    | dK k => exact .dK (k0.back x k)
  | dT k0 => cases h with
    | dT k => exact .dT (k0.back x k)
mutual
/-- plain data leans on no object -/
theorem RV.plain {m : List Addr} : ∀ {x : Vl} {d : Dt} {v : V}, toDt x = some d → RV K G v x → RV K ⟨G.b, m⟩ v x
  | .non, _, _, _, h => by cases h; exact .non
  | .bl _, _, _, _, h => by cases h; exact .bl _
  | .int _, _, _, _, h => by cases h; exact .int _
  | .str _, _, _, _, h => by cases h; exact .str _
  | .tup xs, _, _, e, h => by
    unfold toDt at e
    split at e
    · rename_i ds he
      cases h with
      | tup h1 h2 => exact .tup h1 (RVs.plain he h2)
    · cases e
  | .fz xs, _, _, e, h => by
    unfold toDt at e
    split at e
    · rename_i ds he
      cases h with
      | fz h1 h2 => exact .fz h1 (RVs.plain he h2)
    · cases e
  | .ref n, _, _, e, h => by cases e
  | .glo x, _, _, e, h => by cases e
theorem RVs.plain {m : List Addr} : ∀ {xs : List Vl} {ds : List Dt} {vs : List V}, toDts xs = some ds → RVs K G vs xs → RVs K ⟨G.b, m⟩ vs xs
  | [], _, _, _, h => by cases h; exact .nil
  | x :: xs, _, _, e, h => by
    unfold toDts at e
    split at e
    · rename_i d hd
      split at e
      · rename_i ds hds
        cases h with
        | cons h1 h2 => exact .cons (RV.plain hd h1) (RVs.plain hds h2)
      · cases e
    · cases e
end
end
section
variable {F : SL.Act} {H H' : Hp} {G G' : Gd} {S X : Sto}
/-- the new objects forgotten -/
theorem HS.forget (h : HS F H G S) (h' : HS F H' G' (S ++ X)) (x : Ext G G') : HS F H' ⟨G'.b, G.m⟩ S ∧ Ext G ⟨G'.b, G.m⟩ := by
  refine ⟨⟨h'.gr, h'.nt, h'.tb, h.len, fun n o e => ?_, fun n a e => h'.out n a (x.pre n a e), h.inj⟩, ⟨x.gr, fun _ _ e => e⟩⟩
  obtain ⟨a, u0, e1, _, r0⟩ := h.obj n o e
  have hn : n < S.length := (List.getElem?_eq_some_iff.mp e).1
  obtain ⟨a', u, e2, e3, r⟩ := h'.obj n o (by rw [List.getElem?_append_left hn]; exact e)
  have := x.pre n a e1
  rw [e2] at this
  cases this
  exact ⟨_, u, e1, e3, r0.back x r⟩
end
open Classical in
/-- a call that hands back plain data leaves no new object -/
noncomputable def gcP (f : Fn) : Fn := fun xs S => if h : ∃ (x : Vl) (X : Sto), f xs S = .ok x (S ++ X) ∧ (toDt x).isSome = true then .ok h.choose S else f xs S
open Classical in
/-- a call that hands back a new list of plain data leaves that list alone -/
noncomputable def gcL (f : Fn) : Fn := fun xs S => if h : ∃ (ds : List Vl) (k : Nat) (X : Sto), f xs S = .ok (.ref (S.length + k)) (S ++ X) ∧ X[k]? = some (.lst ds) ∧ (toDts ds).isSome = true then .ok (.ref S.length) (S ++ [.lst h.choose]) else f xs S
theorem gcP_eq {f : Fn} {xs : List Vl} {S X : Sto} {x : Vl} (e : f xs S = .ok x (S ++ X)) (h : (toDt x).isSome = true) : gcP f xs S = .ok x S := by
  have h0 : ∃ (x : Vl) (X : Sto), f xs S = .ok x (S ++ X) ∧ (toDt x).isSome = true := ⟨x, X, e, h⟩
  unfold gcP
  rw [dif_pos h0]
  obtain ⟨X', e', _⟩ := h0.choose_spec
  have e2 := e.symm.trans e'
  simp only [Rs.ok.injEq] at e2
  exact congrArg (fun z => Rs.ok z S) e2.1.symm
theorem gcL_eq {f : Fn} {xs : List Vl} {S X : Sto} {k : Nat} {ds : List Vl} (e : f xs S = .ok (.ref (S.length + k)) (S ++ X)) (hk : X[k]? = some (.lst ds)) (h : (toDts ds).isSome = true) : gcL f xs S = .ok (.ref S.length) (S ++ [.lst ds]) := by
  have h0 : ∃ (ds : List Vl) (k : Nat) (X : Sto), f xs S = .ok (.ref (S.length + k)) (S ++ X) ∧ X[k]? = some (.lst ds) ∧ (toDts ds).isSome = true := ⟨ds, k, X, e, hk, h⟩
  unfold gcL
  rw [dif_pos h0]
  obtain ⟨k', X', e', hk', _⟩ := h0.choose_spec
  rw [e] at e'
  simp only [Rs.ok.injEq, Vl.ref.injEq] at e'
  obtain ⟨e1, e2⟩ := e'
  have hkk : k = k' := by omega
  have hX : X = X' := List.append_cancel_left e2
  subst hkk hX
  rw [hk] at hk'
  simp only [Option.some.injEq, AObj.lst.injEq] at hk'
  rw [← hk']
section
variable {P : Program} {w : World} {K : PySem.W.Frag} {mg : Str → Option Value} {base : Heap} {CX : CXT} {k : Nat} {f : Addr} {fd : FuncData} {ps : List Str} {F : SL.Act} {g : Fn}
theorem FnOk.gcP (h : FnOk P w K mg base CX k f fd ps (spS F g)) : FnOk P w K mg base CX k f fd ps (spS F (SL.gcP g)) := by
  refine h.imp fun vs H Q E ⟨G, xs, S, hs, r, q⟩ => ⟨G, xs, S, hs, r, ?_⟩
  by_cases h0 : ∃ (x : Vl) (X : Sto), g xs S = .ok x (S ++ X) ∧ (toDt x).isSome = true
  · obtain ⟨x, X, e, hp⟩ := h0
    rw [gcP_eq e hp] at q
    rw [e]
    intro H' G' x1 hs' v rv
    obtain ⟨hs2, x2⟩ := hs.forget hs' x1
    obtain ⟨d, hd⟩ := Option.isSome_iff_exists.mp hp
    exact q H' _ x2 hs2 v (rv.plain hd)
  · unfold SL.gcP at q
    rw [dif_neg h0] at q
    exact q
theorem FnOk.gcL (h : FnOk P w K mg base CX k f fd ps (spS F g)) : FnOk P w K mg base CX k f fd ps (spS F (SL.gcL g)) := by
  refine h.imp fun vs H Q E ⟨G, xs, S, hs, r, q⟩ => ⟨G, xs, S, hs, r, ?_⟩
  by_cases h0 : ∃ (ds : List Vl) (k : Nat) (X : Sto), g xs S = .ok (.ref (S.length + k)) (S ++ X) ∧ X[k]? = some (.lst ds) ∧ (toDts ds).isSome = true
  · obtain ⟨ds, j, X, e, hk, hp⟩ := h0
    rw [gcL_eq e hk hp] at q
    rw [e]
    intro H' G' x1 hs' v rv
    obtain ⟨hs2, x2⟩ := hs.forget hs' x1
    obtain ⟨d, hd⟩ := Option.isSome_iff_exists.mp hp
    have ek : (S ++ X)[S.length + j]? = some (.lst ds) := by
      rw [List.getElem?_append_right (by omega), Nat.add_sub_cancel_left]
      exact hk
    obtain ⟨a, ws, rfl, ea, eh, rl⟩ := hs'.lst rv ek
    have hne : ∀ n : Nat, (⟨G'.b, G.m⟩ : Gd).m[n]? ≠ some a := fun n hn => by
      have h1 := x1.pre n a hn
      have h2 := hs'.inj n (S.length + j) a h1 ea
      have h3 : n < S.length := by
        rw [← hs.len]
        exact (List.getElem?_eq_some_iff.mp hn).1
      omega
    obtain ⟨hs3, x3, l3⟩ := hs2.new hne (hs'.out _ a ea) eh (RO.lst (rl.plain (m := G.m) hd))
    exact q H' _ (x2.trans x3) hs3 _ (.ref l3)
  · unfold SL.gcL at q
    rw [dif_neg h0] at q
    exact q
end
end SL
set_option Elab.async false
set_option linter.all false
set_option maxRecDepth 100000
/-! SL14: what a dict of the written part holds, read off K -/
namespace SL
open PySem PySem.Spec PyProof.Rows L2 DL
/-- the value u is such plain data -/
def valB (u : Value) (e : Vl) : Bool := match u, e with
  | .int i _, .int j => i == j
  | .str z _, .str s => z.cps.toList == s
  | _, _ => false
theorem valB_ok {K : PySem.W.Frag} {u : Value} {e : Vl} (h : valB u e = true) : ∃ v, RelV v u ∧ ∀ G : Gd, RV K G v e := by
  unfold valB at h
  split at h
  · rename_i i t j
    have : i = j := by simpa using h
    subst this
    exact ⟨.int i, ⟨t, rfl⟩, fun G => .int i⟩
  · rename_i z t s
    have hz : z.cps.toList = s := by simpa using h
    exact ⟨.str z, ⟨t, rfl⟩, rv_lit hz⟩
  · cases h
def entB (e : DictEntry) (p : List Nat × Vl) : Bool := (match e.key with
  | .str z _ => z.cps.toList == p.1
  | _ => false) && valB e.val p.2
def entsB : List DictEntry → List (List Nat × Vl) → Bool
  | [], [] => true
  | e :: es, p :: ps => entB e p && entsB es ps
  | _, _ => false
def kdB (K : PySem.W.Frag) (x : Str) (kd : List (List Nat × Vl)) : Bool := match K.lookup (He.ga K x) with
  | some ⟨_, _, .dict es _, _⟩ => entsB es.toList kd
  | _ => false
theorem ents_find : ∀ {es : List DictEntry} {kd : List (List Nat × Vl)}, entsB es kd = true → (es.any (·.refKey)) = false ∧ ∀ s : List Nat,
    (∀ e, kd.lookup s = some e → ∃ d, es.find? (·.key.isStr ⟨s.toArray⟩) = some d ∧ valB d.val e = true) ∧ (kd.lookup s = none → es.find? (·.key.isStr ⟨s.toArray⟩) = none)
  | [], [], _ => ⟨rfl, fun s => ⟨fun e h => (by cases h), fun _ => rfl⟩⟩
  | [], _ :: _, h => by cases h
  | _ :: _, [], h => by cases h
  | e :: es, (k, v) :: ps, h => by
    unfold entsB at h
    rw [Bool.and_eq_true] at h
    obtain ⟨h1, h2⟩ := h
    obtain ⟨i1, i2⟩ := ents_find h2
    unfold entB at h1
    rw [Bool.and_eq_true] at h1
    obtain ⟨h3, h4⟩ := h1
    cases hk : e.key with
    | str z t =>
      rw [hk] at h3
      have hz : z.cps.toList = k := by simpa using h3
      have hz2 : z = ⟨k.toArray⟩ := by
        cases z
        simp at hz ⊢
        rw [← hz]
      refine ⟨by rw [List.any_cons, i1]; simp [DictEntry.refKey, hk], fun s => ?_⟩
      have hs : e.key.isStr ⟨s.toArray⟩ = (s == k) := by
        rw [hk, hz2]
        by_cases q : s = k
        · subst q
          simp [Value.isStr]
        · have q2 : (s == k) = false := beq_eq_false_iff_ne.mpr q
          rw [q2]
          show ((⟨k.toArray⟩ : Str) == ⟨s.toArray⟩) = false
          rw [beq_eq_false_iff_ne]
          intro w
          have w2 : k.toArray = s.toArray := congrArg Str.cps w
          exact q (by simpa using w2.symm)
      rw [List.lookup_cons, List.find?_cons, hs]
      cases q : s == k with
      | true =>
        refine ⟨fun e' he => ?_, fun he => by cases he⟩
        simp only [Option.some.injEq] at he
        subst he
        exact ⟨e, rfl, h4⟩
      | false => exact i2 s
    | _ => rw [hk] at h3; cases h3
theorem kd_of {K : PySem.W.Frag} {w : World} {x : Str} {kd : List (List Nat × Vl)} (hd : ∃ es n, KDict K w (He.ga K x) es n) (h : kdB K x kd = true) : KD K w x kd := by
  unfold kdB at h
  obtain ⟨es, n, D⟩ := hd
  rw [D.at_] at h
  obtain ⟨h1, h2⟩ := ents_find (show entsB es.toList kd = true from h)
  refine ⟨⟨es, n, D⟩, fun s e he => ?_, fun s he => ?_⟩
  · obtain ⟨d, e1, e2⟩ := (h2 s).1 e he
    obtain ⟨v, r1, r2⟩ := valB_ok (K := K) e2
    refine ⟨d.val, v, ?_, r1, r2⟩
    unfold PySem.W.nsIn
    rw [D.at_]
    dsimp only
    rw [e1]
  · have e1 := (h2 s).2 he
    unfold PySem.W.nsIn
    rw [D.at_]
    dsimp only
    rw [e1, h1]
    rfl
end SL
set_option Elab.async false
set_option linter.all false
set_option maxRecDepth 100000
/-! SL15: defs of the data layer called from the store layer; a def that is run on a store of its own; lists that are laid to stay -/
namespace SL
open PySem PySem.Spec PyProof.Rows L2 DL
section
variable {P : Program} {w : World} {K : PySem.W.Frag} {mg : Str → Option Value} {base : Heap} {CX : CXT} {k : Nat} {f : Addr} {fd : FuncData} {ps : List Str} {F : SL.Act} {g : Fn}
/-- a def that raises nothing keeps its promise where exceptions may leave -/
theorem FnOk.up0 {sp : Sp} (h : FnOk P w K mg base C8.CX0 k f fd ps sp) : FnOk P w K mg base CX k f fd ps sp :=
  ⟨h.len, fun A outer s H args us vs Q E hr he hb hv hs => codeAny_mono (h.run A outer s H args us vs Q E hr he hb hv hs) fun r s' q => by
    unfold CR at q ⊢
    split at q
    · exact q
    · exact q
    · exact q.elim⟩
/-- a def of the data layer -/
def upF (r : Option Dt) (S : Sto) : Rs Vl := match r with
  | some d => match ofDt d with
    | some x => .ok x S
    | none => .bad
  | none => .bad
def liftD (f : List Dt → Option Dt) : Fn := fun xs S => match toDts xs with
  | some ds => upF (f ds) S
  | none => .bad
theorem FnOk.data {T : List Addr} {m : List Dt → Option Dt} (h : FnOk P w K mg base C8.CX0 k f fd ps (spD K T m)) : FnOk P w K mg base CX k f fd ps (spS ⟨K, T⟩ (liftD m)) := by
  refine FnOk.imp (FnOk.up0 h) fun vs H Q E ⟨G, xs, S, hs, r, q⟩ => ?_
  unfold liftD at q
  split at q
  · rename_i ds hd
    cases e : m ds with
    | none => rw [e] at q; exact q.elim
    | some d =>
      rw [e] at q
      unfold upF at q
      dsimp only at q
      split at q
      · rename_i x hx
        refine ⟨G.b, ds, d, hs.gr, hs.nt, hs.tb, toDts_ok hd r, e, fun v H' B' t g' rp => ?_⟩
        obtain ⟨hs1, x1⟩ := hs.stp t g'
        exact q H' _ x1 hs1 v (ofDt_ok hx rp)
      · exact q.elim
  · exact q.elim
end
/-! ### a def on a store of its own -/
mutual
/-- plain data in which no list is -/
def noL : Vl → Bool
  | .non => true
  | .bl _ => true
  | .int _ => true
  | .str _ => true
  | .tup xs => noLs xs
  | _ => false
def noLs : List Vl → Bool
  | [] => true
  | x :: xs => noL x && noLs xs
end
mutual
def frz0 : Vl → Bool
  | .non => true
  | .bl _ => true
  | .int _ => true
  | .str _ => true
  | .tup xs => frz0s xs
  | .fz xs => frz0s xs
  | _ => false
def frz0s : List Vl → Bool
  | [] => true
  | x :: xs => frz0 x && frz0s xs
end
section
variable {K : PySem.W.Frag} {G : Gd}
mutual
theorem RV.frz {G' : Gd} (g : Gr G.b G'.b) : ∀ {x : Vl} {v : V}, frz0 x = true → RV K G v x → RV K G' v x
  | .non, _, _, h => by cases h; exact .non
  | .bl _, _, _, h => by cases h; exact .bl _
  | .int _, _, _, h => by cases h; exact .int _
  | .str _, _, _, h => by cases h; exact .str _
  | .tup xs, _, e, h => by
    cases h with
    | tup h1 h2 => exact .tup (g.sqT h1) (RVs.frz g (by simpa [frz0] using e) h2)
  | .fz xs, _, e, h => by
    cases h with
    | fz h1 h2 => exact .fz (g.sqL h1) (RVs.frz g (by simpa [frz0] using e) h2)
  | .ref n, _, e, h => by cases e
  | .glo x, _, e, h => by cases e
theorem RVs.frz {G' : Gd} (g : Gr G.b G'.b) : ∀ {xs : List Vl} {vs : List V}, frz0s xs = true → RVs K G vs xs → RVs K G' vs xs
  | [], _, _, h => by cases h; exact .nil
  | x :: xs, _, e, h => by
    simp only [frz0s, Bool.and_eq_true] at e
    cases h with
    | cons h1 h2 => exact .cons (RV.frz g e.1 h1) (RVs.frz g e.2 h2)
end
mutual
/-- data without lists leans on tuples alone -/
theorem RV.noL {b' : Hp} {m' : List Addr} (hb : ∀ a vs, Rd G.b a (.tup vs) → Rd b' a (.tup vs)) : ∀ {x : Vl} {v : V}, SL.noL x = true → RV K G v x → RV K ⟨b', m'⟩ v x
  | .non, _, _, h => by cases h; exact .non
  | .bl _, _, _, h => by cases h; exact .bl _
  | .int _, _, _, h => by cases h; exact .int _
  | .str _, _, _, h => by cases h; exact .str _
  | .tup xs, _, e, h => by
    cases h with
    | tup h1 h2 =>
      refine .tup ?_ (RVs.noL hb (by simpa [SL.noL] using e) h2)
      rcases h1 with h1 | h1
      · exact .inl (hb _ _ h1)
      · exact .inr h1
  | .fz xs, _, e, h => by cases e
  | .ref n, _, e, h => by cases e
  | .glo x, _, e, h => by cases e
theorem RVs.noL {b' : Hp} {m' : List Addr} (hb : ∀ a vs, Rd G.b a (.tup vs) → Rd b' a (.tup vs)) : ∀ {xs : List Vl} {vs : List V}, SL.noLs xs = true → RVs K G vs xs → RVs K ⟨b', m'⟩ vs xs
  | [], _, _, h => by cases h; exact .nil
  | x :: xs, _, e, h => by
    simp only [SL.noLs, Bool.and_eq_true] at e
    cases h with
    | cons h1 h2 => exact .cons (RV.noL hb e.1 h1) (RVs.noL hb e.2 h2)
end
end
def noLf : List (Str × Vl) → Bool
  | [] => true
  | (_, x) :: r => noL x && noLf r
theorem RF.noL {K : PySem.W.Frag} {G : Gd} {b' : Hp} {m' : List Addr} (hb : ∀ a vs, Rd G.b a (.tup vs) → Rd b' a (.tup vs)) : ∀ {gs : List (Str × Vl)} {fs : List (Str × V)}, noLf gs = true → RF K G fs gs → RF K ⟨b', m'⟩ fs gs
  | [], _, _, h => by cases h; exact .nil
  | (_, x) :: gs, _, e, h => by
    simp only [noLf, Bool.and_eq_true] at e
    cases h with
    | cons h1 h2 => exact .cons (h1.noL hb e.1) (RF.noL hb e.2 h2)
section
variable {F : SL.Act} {H H' : Hp} {G G1 : Gd} {S X : Sto}
theorem noT_b (hs : HS F H G S) : Gr G.b (noT H) := fun a o e => noT_at (hs.gr a o e) fun ps z => hs.nt a ps (by rw [e, z])
theorem HS.own (hs : HS F H G S) : HS F H ⟨noT H, []⟩ [] :=
  ⟨noT_gr H, noT_tbl H, hs.tb, rfl, fun n o e => by simp at e, fun n a e => by simp at e, fun i j a e => by simp at e⟩
open Classical in
noncomputable def cutB (m : List Addr) (b : Hp) : Hp := fun a => if a ∈ m then none else b a
/-- back from a run on a store of its own -/
theorem HS.home (hs : HS F H G S) (h1 : HS F H' G1 X) (x : Ext ⟨noT H, []⟩ G1) : HS F H' ⟨cutB G.m G1.b, G.m⟩ S ∧ Ext G ⟨cutB G.m G1.b, G.m⟩ ∧ ∀ a vs, Rd G1.b a (.tup vs) → Rd (cutB G.m G1.b) a (.tup vs) := by
  have hm : ∀ a, a ∈ G.m → G.b a = none := fun a ha => by
    obtain ⟨n, hn⟩ := List.mem_iff_getElem?.mp ha
    exact hs.out n a hn
  have ho : ∀ a, a ∈ G.m → ∃ o u, H a = some u ∧ G1.b a = some u ∧ RO F.K G u o := fun a ha => by
    obtain ⟨n, hn⟩ := List.mem_iff_getElem?.mp ha
    obtain ⟨o, u, _, e2, e3⟩ := hs.there hn
    exact ⟨o, u, e2, x.gr a u (noT_at e2 e3.notbl), e3⟩
  have hx : Ext G ⟨cutB G.m G1.b, G.m⟩ := ⟨fun a u e => by
    have h2 : a ∉ G.m := fun z => by rw [hm a z] at e; cases e
    show cutB G.m G1.b a = some u
    unfold cutB
    rw [if_neg h2]
    exact x.gr a u (noT_b hs a u e), fun _ _ e => e⟩
  have hc : ∀ a u, cutB G.m G1.b a = some u → G1.b a = some u := fun a u e => by
    unfold cutB at e
    split at e
    · cases e
    · exact e
  refine ⟨⟨fun a u e => h1.gr a u (hc a u e), fun a ps e => h1.nt a ps (hc a _ e), h1.tb, hs.len, fun n o e => ?_, fun n a e => ?_, hs.inj⟩, hx, fun a vs r => ?_⟩
  · obtain ⟨a, u, e1, e2, e3⟩ := hs.obj n o e
    exact ⟨a, u, e1, h1.gr a u (x.gr a u (noT_at e2 e3.notbl)), e3.up hx⟩
  · show cutB G.m G1.b a = none
    unfold cutB
    rw [if_pos (List.mem_of_getElem? e)]
  · have h2 : a ∉ G.m := fun z => by
      obtain ⟨o, u, _, e2, e3⟩ := ho a z
      rcases r with r | ⟨o', r⟩
      · rw [e2] at r; cases r; cases e3
      · rw [e2] at r; cases r; cases e3
    have h3 : cutB G.m G1.b a = G1.b a := by
      unfold cutB
      rw [if_neg h2]
    unfold Rd
    rw [h3]
    exact r
/-- a def that is run on a store of its own: plain data in, plain data without lists out -/
def isoE (e : Exc) : Bool := match e.pay with
  | none => true
  | some gs => noLf gs
def iso (f : Fn) : Fn := fun xs S => if frz0s xs then match f xs [] with
    | .ok x _ => if noL x then .ok x S else .bad
    | .ex e _ => if isoE e then .ex e S else .bad
    | .bad => .bad
  else f xs S
variable {P : Program} {w : World} {K : PySem.W.Frag} {mg : Str → Option Value} {base : Heap} {CX : CXT} {k : Nat} {f : Addr} {fd : FuncData} {ps : List Str} {g : Fn}
theorem FnOk.iso (h : FnOk P w K mg base CX k f fd ps (spS F g)) : FnOk P w K mg base CX k f fd ps (spS F (SL.iso g)) := by
  refine h.imp fun vs H Q E ⟨G, xs, S, hs, r, q⟩ => ?_
  unfold SL.iso at q
  split at q
  · rename_i hf
    refine ⟨⟨noT H, []⟩, xs, [], hs.own, r.frz (G' := ⟨noT H, []⟩) (noT_b hs) hf, ?_⟩
    cases e : g xs [] with
    | ok x X =>
      rw [e] at q
      dsimp only at q
      split at q
      · rename_i hn
        intro H' G1 x1 hs1 v rv
        obtain ⟨a1, a2, a3⟩ := hs.home hs1 x1
        exact q H' _ a2 a1 v (rv.noL a3 hn)
      · exact q.elim
    | ex e' X =>
      rw [e] at q
      dsimp only at q
      split at q
      · rename_i hn
        intro c d H' G1 x1 hs1 rx
        obtain ⟨a1, a2, a3⟩ := hs.home hs1 x1
        refine q c d H' _ a2 a1 ⟨rx.1, ?_⟩
        have r2 := rx.2
        unfold isoE at hn
        cases hp : e'.pay with
        | none => rw [hp] at r2; exact r2
        | some gs =>
          rw [hp] at r2 hn
          dsimp only at r2 hn ⊢
          obtain ⟨a, fs, z1, z2, z3⟩ := r2
          exact ⟨a, fs, z1, z2, z3.noL a3 hn⟩
      · exact q.elim
    | bad => rw [e] at q; exact q.elim
  · exact ⟨G, xs, S, hs, r, q⟩
end
/-! ### lists that are laid to stay -/
section
variable {F : SL.Act} {W : WX} {H H' : Hp} {G : Gd} {S : Sto} {σ : L2.St} {tr : TA}
theorem HS.frzN (h : HS F H G S) {a : Addr} {u : HO} (ha : ∀ n : Nat, G.m[n]? ≠ some a) (hb : G.b a = none) (e : H a = some u) (ho : ∀ ps, u ≠ .tbl ps) : HS F H ⟨upd G.b a u, G.m⟩ S ∧ Ext G ⟨upd G.b a u, G.m⟩ := by
  have x : Ext G ⟨upd G.b a u, G.m⟩ := ⟨fun b o q => by
    show upd G.b a u b = some o
    rw [upd_ne (fun z => by rw [z, hb] at q; cases q)]
    exact q, fun _ _ q => q⟩
  refine ⟨⟨fun b o q => ?_, fun b ps q => ?_, h.tb, h.len, fun n o q => ?_, fun n b q => ?_, h.inj⟩, x⟩
  · by_cases z : b = a
    · rw [z] at q ⊢
      have q' : upd G.b a u a = some o := q
      rw [upd_same] at q'
      rw [e]
      exact q'
    · have q' : upd G.b a u b = some o := q
      rw [upd_ne z] at q'
      exact h.gr b o q'
  · have q' : upd G.b a u b = some (.tbl ps) := q
    by_cases z : b = a
    · rw [z, upd_same] at q'
      exact ho ps (Option.some.inj q')
    · rw [upd_ne z] at q'
      exact h.nt b ps q'
  · obtain ⟨b, w, e1, e2, e3⟩ := h.obj n o q
    exact ⟨b, w, e1, e2, e3.up x⟩
  · show upd G.b a u b = none
    rw [upd_ne (fun z => ha n (by rw [← z]; exact q))]
    exact h.out n b q
def fLstF (g : Fa) : Fe := fun env S => (g env S).bind fun xs S1 => if Nat.ble xs.length 16777216 then .ok (.fz xs) S1 else .bad
theorem ev_lstF {g : Fa} (h : EA F W tr g) : EV F W (tLst tr) (fLstF g) := by
  intro σ H G env S hs re Q q
  refine h σ H G env S hs re _ (q.bind fun xs S1 H1 G1 x1 hs1 q1 vs rvs => ?_)
  split at q1
  · rename_i hb
    refine ⟨by rw [rvs.length]; exact szl hb, fun a ha => ?_⟩
    obtain ⟨hs2, x2⟩ := hs1.put (u := .lst vs) ha (fun ps z => by cases z)
    exact q1 _ _ x2 hs2 _ (.fz (.inl (.inl upd_same)) (rvs.up x2))
  · exact q1.elim
def upRF (r : Option Ow) (S : Sto) : Rs Vl := match r with
  | some (.sh d) => match ofDt d with
    | some x => .ok x S
    | none => .bad
  | some (.lst ds) => match ofDts ds with
    | some xs => .ok (.fz xs) S
    | none => .bad
  | none => .bad
theorem upRF_ok {Q : VK} {r : Option Ow} {o : Ow} (hs : HS F H G S) (e : r = some o) (q : PG F W σ G (kV' F Q) (upRF r S)) (F' : DL.Act) (hF : F'.K = F.K) (z : V) (H' B' : Hp) (t : Stp (fun _ => False) G.b H B' H') (g : Gr B' H') (w : DL.WOk F' H H' B' z o) : Q z H' := by
  subst e
  obtain ⟨hs1, x1⟩ := hs.stp t g
  cases o with
  | sh d =>
    simp only [upRF] at q
    split at q
    · rename_i x hx
      have w' : Rp F'.K B' z d := w
      rw [hF] at w'
      exact q H' _ x1 hs1 z (ofDt_ok hx w')
    · exact q.elim
  | lst ds =>
    simp only [upRF] at q
    split at q
    · rename_i xs hx
      obtain ⟨l, vs, rfl, h2, h3, h4, h5⟩ := w
      rw [hF] at h5
      have hl : ∀ n : Nat, (⟨B', G.m⟩ : Gd).m[n]? ≠ some l := (hs.fresh h3).1
      obtain ⟨hs2, x2⟩ := hs1.frzN hl h2 h4 (fun ps z => by cases z)
      exact q H' _ (x1.trans x2) hs2 _ (.fz (.inl (.inl upd_same)) ((ofDts_ok (G := ⟨B', G.m⟩) hx h5).up x2))
    · exact q.elim
def lift2F (g : Dt → Dt → Option Ow) (x y : Vl) (S : Sto) : Rs Vl := match toDt x, toDt y with
  | some a, some b => upRF (g a b) S
  | _, _ => .bad
theorem r2_liftF {r : R2} {g : Dt → Dt → Option Ow} (h : ∀ F' : DL.Act, F'.K = F.K → RD2 F' r g) : R2s F W r (lift2F g) := by
  intro σ H G S v w x y hs rx ry Q q
  have hF := h ⟨F.K, G.b, H, fun _ => False⟩ rfl
  unfold lift2F at q
  split at q
  · rename_i a b ha hb
    cases e : g a b with
    | none => rw [e] at q; exact q.elim
    | some o => exact hF H G.b v w a b o hs.gr (toDt_ok ha rx) (toDt_ok hb ry) e Q fun z H' B' t g' w' => upRF_ok hs e q _ rfl z H' B' t g' w'
  · exact q.elim
theorem r2_addF : R2s F W (rAddU F.K) (lift2F gAdd) := r2_liftF fun _ h => by rw [← h]; exact rd_addU
end
end SL
set_option Elab.async false
set_option linter.all false
set_option maxRecDepth 100000
/-! SL16: what a law's end needs -/
namespace SL
open PySem PySem.Spec PyProof.Rows L2 DL He
theorem noT_sql {K : PySem.W.Frag} {H : Hp} {a : Addr} {xs : List V} (h : SqL K H a xs) : SqL K (noT H) a xs := by
  rcases h with h | h
  · rcases h with h | ⟨o, h⟩
    · refine .inl (.inl ?_)
      unfold noT
      rw [h]
    · refine .inl (.inr ⟨o, ?_⟩)
      unfold noT
      rw [h]
  · exact .inr h
theorem rvs_ints {K : PySem.W.Frag} {G : Gd} : ∀ ns : List Int, RVs K G (ns.map V.int) (ns.map .int)
  | [] => .nil
  | n :: ns => .cons (.int n) (rvs_ints ns)
theorem rps_ints {K : PySem.W.Frag} {H : Hp} : ∀ ns : List Int, Rps K H (ns.map V.int) (ns.map .int)
  | [] => .nil
  | n :: ns => .cons (.int n) (rps_ints ns)
/-- a module's tuple of texts -/
def dvS (ss : List (List Nat)) : List Dv := ss.map fun s => .str ⟨s.toArray⟩
theorem rps_strs {K : PySem.W.Frag} {H : Hp} : ∀ ss : List (List Nat), Rps K H ((dvS ss).map (Dv.v K)) (ss.map .str)
  | [] => .nil
  | s :: ss => .cons (.str s) (rps_strs ss)
theorem rvs_strs {K : PySem.W.Frag} {G : Gd} : ∀ ss : List (List Nat), RVs K G ((dvS ss).map (Dv.v K)) (ss.map .str)
  | [] => .nil
  | s :: ss => .cons (.str s) (rvs_strs ss)
theorem FunD.toFun {K : PySem.W.Frag} {x q : Str} {s : Stmt} {f : Addr} {fd : FuncData} (F : FunD K x q (defArgs s) (defBody s) (defScope s) [] [] f fd) : L2.Fun K x q s f fd := by
  obtain ⟨oc, od, dV, kV, doc, pm, an, cdv, ct, osl, h1, h2, h3, h4, h5⟩ := F.ex
  rcases h4 with ⟨_, rfl⟩ | ⟨e, _⟩
  · exact ⟨⟨oc, od, kV, doc, pm, an, cdv, ct, osl, h1, h2, h3⟩, F.kp⟩
  · exact absurd rfl e
theorem fun_code {K : PySem.W.Frag} {x : Str} {s : Stmt} {fd : FuncData} (F : L2.Fun K x x s (ga K x) fd) : fd.code = .ref (cT K (x, none)).1 := by
  obtain ⟨oc, od, kV, doc, pm, an, cdv, ct, osl, rfl, lk, hcd⟩ := F.ex
  obtain ⟨c, rfl⟩ := codeIn_ref hcd
  have := codeOf_eq (K := K) (p := (x, none)) lk rfl
  show Value.ref c = .ref (codeOf K (x, none))
  rw [this]
theorem tin {tfs : List Defn} {K : PySem.W.Frag} {p : Defn} (h : p ∈ tfs) : cT K p ∈ tfs.map (cT K) := List.mem_map.mpr ⟨p, h, rfl⟩
theorem hin {tfs : List Defn} {K : PySem.W.Frag} {p : Defn} (h : p ∈ tfs) : (cT K p).2 ∈ (tfs.map (cT K)).map (·.2) := List.mem_map.mpr ⟨_, tin h, rfl⟩
theorem tab_of {base : Heap} {mg : Str → Option Value} {c p : Addr} (h : LamX.TabB base mg c p) : GxR.TabB base mg c p := ⟨h.code, h.bm, h.gP⟩
def mkD (a : Str × Option Str) (x y : Str) (s : Stmt) : DefD := { at_ := a, name := x, qual := y, params := defArgs s, body := defBody s, scope := defScope s }
/-- the promise of a law at its entry -/
theorem law_sp {K : PySem.W.Frag} {T : List Addr} {m : Fn} {H : Hp} {a : Addr} {ns : List Int} (hS : SqL K H a (ns.map V.int)) (hT : ∀ p ∈ T, GxR.TabG H p) (h : ∃ S', m [.fz (ns.map .int)] [] = .ok (.bl true) S') {Q : VK} (hQ : ∀ H', Q (.bl true) H') {E : XK} : spS ⟨K, T⟩ m [.ref a] H Q E := by
  obtain ⟨S', e⟩ := h
  refine ⟨⟨noT H, []⟩, [.fz (ns.map .int)], [], ⟨noT_gr H, noT_tbl H, hT, rfl, fun n o e => by simp at e, fun n a e => by simp at e, fun i j a e => by simp at e⟩, .cons (.fz (noT_sql hS) (rvs_ints ns)) .nil, ?_⟩
  rw [e]
  intro H' G' x hs v rv
  cases rv
  exact hQ H'
end SL
set_option Elab.async false
set_option linter.all false
set_option maxRecDepth 100000
namespace DK06
open PySem PySem.Spec PyProof.Rows L2 DL
theorem gs_free {l : List (Str × NameKind)} {env : Env} (h : (l.all fun y => match y.2 with | .free => false | _ => true) = true) : ∀ y ∈ l, y.2 = .free → ∃ c, env.cells.lookup y.1 = some c := fun y hy e => by
  have := List.all_eq_true.mp h y hy
  rw [e] at this
  cases this
theorem signT_z {X : Cx} {sc : Scope} {x g : Str} {z : List Nat} {p1 p2 p3 : Pos} (hm : ∃ t, X.mg g = some (.str ⟨z.toArray⟩ t)) (hb : X.base.Ns mainGlobals X.mg)
    (hk : sc.kind = .function) (hl : sc.names.lookup x = some .local) (hg : sc.names.lookup g = some .globalImplicit)
    (d1 : (x == ("__debug__" : Str)) = false := by decide) (d2 : (g == ("__debug__" : Str)) = false := by decide) :
    Gx.SignT X sc x (.Compare (.Name x p1) [.In] [.Name g p2] p3) (fun c => decide (c ∈ z)) := by
  have := Gx.signT_in (p1 := p1) (p2 := p2) (p3 := p3) hm hb hk hl hg d1 d2
  simpa using this
def topS (i : Nat) : Stmt := PySem.Challenge.pw_foundry_k06_trees_of_lines.main.body.getD i (.Pass ⟨0, 0, 0, 0⟩)
def d_CLOSED : Dt := .tup [.str [116, 104, 105, 110, 103, 115], .str [116, 114, 117, 116, 104], .str [110, 117, 109, 98, 101, 114], .str [116, 104, 105, 110, 103], .str [115, 101, 116], .str [114, 101, 108, 97, 116, 105, 111, 110], .str [109, 97, 112], .str [103, 114, 97, 112, 104], .str [100, 105, 103, 114, 97, 112, 104], .str [108, 101, 116], .str [100, 101, 102], .str [119, 105, 115, 104], .str [115, 111, 102, 116], .str [112, 114, 105, 99, 101], .str [119, 101, 105, 103, 104, 116], .str [105, 110], .str [111, 102], .str [111, 110], .str [102, 114, 111, 109], .str [116, 111], .str [110, 111, 116], .str [97, 110, 100], .str [111, 114], .str [119, 105, 116, 104, 105, 110], .str [105, 102], .str [116, 104, 101, 110], .str [101, 108, 115, 101], .str [121, 101, 115], .str [110, 111], .str [103, 105, 118, 101, 110], .str [97, 108, 108], .str [115, 111, 109, 101], .str [101, 120, 97, 99, 116, 108, 121], .str [97, 116, 108, 101, 97, 115, 116], .str [97, 116, 109, 111, 115, 116], .str [99, 111, 117, 110, 116], .str [115, 117, 109], .str [108, 101, 97, 115, 116], .str [109, 111, 115, 116], .str [116, 104, 111, 115, 101], .str [101, 100, 103, 101], .str [112, 97, 116, 104], .str [106, 111, 105, 110, 101, 100], .str [116, 114, 101, 101, 108, 105, 107, 101], .str [114, 111, 117, 110, 100], .str [115, 105, 122, 101], .str [100, 101, 103, 114, 101, 101], .str [110, 101, 97, 114], .str [100, 105, 115, 116, 97, 110, 99, 101], .str [100, 105, 118], .str [109, 111, 100], .str [109, 111, 100, 101, 108], .str [119, 101, 105, 103, 104], .str [110, 116, 104], .str [102, 111, 108, 108, 111, 119, 115], .str [102, 111, 114, 99, 101, 100], .str [99, 111, 114, 101], .str [109, 101, 110, 100], .str [108, 105, 107, 101, 108, 105, 101, 115, 116], .str [109, 97, 114, 103, 105, 110, 97, 108], .str [116, 104, 101, 105, 114, 115], .str [115, 101, 101, 115], .str [119, 105, 110], .str [118, 97, 108, 117, 101], .str [115, 116, 97, 98, 108, 101], .str [115, 116, 97, 98, 108, 101, 115]]
def z_FIRST : List Nat := [97, 98, 99, 100, 101, 102, 103, 104, 105, 106, 107, 108, 109, 110, 111, 112, 113, 114, 115, 116, 117, 118, 119, 120, 121, 122, 65, 66, 67, 68, 69, 70, 71, 72, 73, 74, 75, 76, 77, 78, 79, 80, 81, 82, 83, 84, 85, 86, 87, 88, 89, 90]
def z_SIGNS : List Nat := [97, 98, 99, 100, 101, 102, 103, 104, 105, 106, 107, 108, 109, 110, 111, 112, 113, 114, 115, 116, 117, 118, 119, 120, 121, 122, 65, 66, 67, 68, 69, 70, 71, 72, 73, 74, 75, 76, 77, 78, 79, 80, 81, 82, 83, 84, 85, 86, 87, 88, 89, 90, 48, 49, 50, 51, 52, 53, 54, 55, 56, 57, 95]
def z_DIGITS : List Nat := [48, 49, 50, 51, 52, 53, 54, 55, 56, 57]
def d_MARKS : Dt := .tup [.str [60, 45, 62], .str [45, 62], .str [60, 61], .str [62, 61], .str [46, 46], .str [40], .str [41], .str [123], .str [125], .str [44], .str [58], .str [61], .str [35], .str [60], .str [62], .str [43], .str [45], .str [42], .str [47]]
/-! ### is_name -/
abbrev s_is_name : Stmt := topS 12
abbrev N_is_name : List Str := ["text"]
theorem sc_is_name : FnScope N_is_name ["text"] (defScope s_is_name) := ⟨rfl, rfl, rfl, by decide +kernel, rfl, by decide +kernel, by decide +kernel⟩
def b_is_name_0_0 : Fs := (sRet (fC (.bl false)))
def b_is_name_0 : Fs := (sIf (fOr (fB (fOp gEq (fVar 0) (fC (.str [])))) (fOr (fB (fOp gGt (fCBV gLen 0) (fC (.int 12)))) (fB (fOp gIn (fVar 0) (fC d_CLOSED))))) b_is_name_0_0 sNx)
def b_is_name_1 : Fs := (sRet (fV (fAnd (fB (fOp gIn (fIxV 0 (fC (.int 0))) (fC (.str z_FIRST)))) (fB (fAllT (fun c => decide (c ∈ z_SIGNS)) (fVar 0))))))
def b_is_name : Fs :=
  (sSeq b_is_name_0 b_is_name_1)
def m_is_name : List Dt → Option Dt := defF 1 1 b_is_name
set_option maxHeartbeats 4000000 in
theorem ok_is_name {P : Program} {w : World} {K : PySem.W.Frag} {mg : Str → Option Value} {base : Heap} {T : List Addr} {f : Addr} {fd : FuncData} (F : Fun K "is_name" "is_name" s_is_name f fd)
    {t_NAME : Tok} (g_NAME : mg "NAME" = some (.int 12 t_NAME))
    {a_CLOSED : Addr} (g_CLOSED : mg "CLOSED" = some (.ref a_CLOSED)) (r_CLOSED : ∀ H : Hp, Rp K H (.ref a_CLOSED) d_CLOSED)
    {t_FIRST : Tok} (g_FIRST : mg "FIRST" = some (.str ⟨z_FIRST.toArray⟩ t_FIRST))
    {t_SIGNS : Tok} (g_SIGNS : mg "SIGNS" = some (.str ⟨z_SIGNS.toArray⟩ t_SIGNS))
    (f_len : mg "len" = none)
    (f_all : mg "all" = none)
    (hG : base.Ns mainGlobals mg) {c tb : Addr} (hc : fd.code = .ref c) (TB : GxR.TabB base mg c tb) (hP : tb ∈ T) :
    FnOk P w K mg base CX0 2 f fd ["text"] (spD K T m_is_name) := by
  refine fn_dl F sc_is_name T b_is_name rfl rfl ?_
  intro A outer s H E B hr ET
  refine ⟨_, (pss_cons (ps_if (PW.pt (pw_or (pt_cmpR (xop_eq K hr) (pv 0) pe_str (nomark _)) (pw_or (pt_cmpR op_gt (pe_callB (xlen K) (by rfl) f_len (by decide +kernel) (pa_cons (pv 0) pa_nil)) (pe_glob (v := .int 12) (by rfl) g_NAME ⟨_, rfl⟩) (nomark _)) (pw_or1 (pt_cmpR (xop_in K hr) (pv 0) (pe_glob (v := .ref a_CLOSED) (by rfl) g_CLOSED rfl) (by rfl)))))) (pss_one (ps_ret pe_bl)) pss_nil)
  (pss_one (ps_ret (pe_and (pe_cmpR (xop_in K hr) (pe_ix (xix K) (pv 0) pe_int (fun _ _ => rfl)) (pe_glob (v := .str ⟨z_FIRST.toArray⟩) (by rfl) g_FIRST ⟨_, rfl⟩) (by rfl)) (pe_one (Gx.pe_allT hr (by rfl) f_all TB hc ⟨rfl, rfl, by decide +kernel, rfl, rfl, gs_free (by decide +kernel)⟩ (pv 0) (signT_z ⟨_, g_SIGNS⟩ hG rfl rfl rfl) (by intro _; rfl))))))), ?_⟩
  unfold b_is_name
  exact (es_seq (es_if (eb_or (eb_test (ed_op (ed_var 0) (ed_c (rp_lit (by rfl))) rd_eq)) (eb_or (eb_test (ed_op (ed_cbV rc_len) (ed_c fun _ => .int _) rd_gt)) (eb_test (ed_op (ed_var 0) (ed_c r_CLOSED) rd_in)))) (es_ret (ed_c fun _ => .bl _)) es_nx)
  (es_ret (ed_andV (ed_op (ed_ixV (ed_c fun _ => .int _)) (ed_c fun _ => .str _) rd_in) (ed_allT ET hP (ed_var 0)))))
/-! ### is_number -/
abbrev s_is_number : Stmt := topS 13
abbrev N_is_number : List Str := ["text"]
theorem sc_is_number : FnScope N_is_number ["text"] (defScope s_is_number) := ⟨rfl, rfl, rfl, by decide +kernel, rfl, by decide +kernel, by decide +kernel⟩
def b_is_number_0_0 : Fs := (sRet (fC (.bl false)))
def b_is_number_0 : Fs := (sIf (fOr (fB (fOp gEq (fVar 0) (fC (.str [])))) (fOr (fB (fOp gGt (fCBV gLen 0) (fC (.int 130)))) (fAnd (fB (fOp gEq (fIxV 0 (fC (.int 0))) (fC (.str [48])))) (fB (fOp gNe (fVar 0) (fC (.str [48]))))))) b_is_number_0_0 sNx)
def b_is_number_1 : Fs := (sRet (fAllT (fun c => decide (c ∈ z_DIGITS)) (fVar 0)))
def b_is_number : Fs :=
  (sSeq b_is_number_0 b_is_number_1)
def m_is_number : List Dt → Option Dt := defF 1 1 b_is_number
set_option maxHeartbeats 4000000 in
theorem ok_is_number {P : Program} {w : World} {K : PySem.W.Frag} {mg : Str → Option Value} {base : Heap} {T : List Addr} {f : Addr} {fd : FuncData} (F : Fun K "is_number" "is_number" s_is_number f fd)
    {t_DIGITS : Tok} (g_DIGITS : mg "DIGITS" = some (.str ⟨z_DIGITS.toArray⟩ t_DIGITS))
    (f_len : mg "len" = none)
    (f_all : mg "all" = none)
    (hG : base.Ns mainGlobals mg) {c tb : Addr} (hc : fd.code = .ref c) (TB : GxR.TabB base mg c tb) (hP : tb ∈ T) :
    FnOk P w K mg base CX0 2 f fd ["text"] (spD K T m_is_number) := by
  refine fn_dl F sc_is_number T b_is_number rfl rfl ?_
  intro A outer s H E B hr ET
  refine ⟨_, (pss_cons (ps_if (PW.pt (pw_or (pt_cmpR (xop_eq K hr) (pv 0) pe_str (nomark _)) (pw_or (pt_cmpR op_gt (pe_callB (xlen K) (by rfl) f_len (by decide +kernel) (pa_cons (pv 0) pa_nil)) pe_int (nomark _)) (pw_or1 (PW.pt (pw_and (pt_cmpR (xop_eq K hr) (pe_ix (xix K) (pv 0) pe_int (fun _ _ => rfl)) pe_str (nomark _)) (pw_and1 (pt_cmpR (xop_ne K hr) (pv 0) pe_str (nomark _))))))))) (pss_one (ps_ret pe_bl)) pss_nil)
  (pss_one (ps_ret (Gx.pe_allT hr (by rfl) f_all TB hc ⟨rfl, rfl, by decide +kernel, rfl, rfl, gs_free (by decide +kernel)⟩ (pv 0) (signT_z ⟨_, g_DIGITS⟩ hG rfl rfl rfl) (by intro _; rfl))))), ?_⟩
  unfold b_is_number
  exact (es_seq (es_if (eb_or (eb_test (ed_op (ed_var 0) (ed_c (rp_lit (by rfl))) rd_eq)) (eb_or (eb_test (ed_op (ed_cbV rc_len) (ed_c fun _ => .int _) rd_gt)) (eb_and (eb_test (ed_op (ed_ixV (ed_c fun _ => .int _)) (ed_c (rp_lit (by rfl))) rd_eq)) (eb_test (ed_op (ed_var 0) (ed_c (rp_lit (by rfl))) rd_ne))))) (es_ret (ed_c fun _ => .bl _)) es_nx)
  (es_ret (ed_allT ET hP (ed_var 0))))
/-! ### words_of -/
abbrev s_words_of : Stmt := topS 14
abbrev N_words_of : List Str := ["line", "found", "at", "end", "word", "marks", "mark"]
theorem sc_words_of : FnScope N_words_of ["line"] (defScope s_words_of) := ⟨rfl, rfl, rfl, by decide +kernel, rfl, by decide +kernel, by decide +kernel⟩
def b_words_of_0 : Fs := (sSet 1 (fLst qNil))
def b_words_of_1 : Fs := (sSet 2 (fC (.int 0)))
def b_words_of_2_0_0 : Fs := (sAug 2 (gI (fun i j => i + j)) (fC (.int 1)))
def b_words_of_2_0e_0_0 : Fs := (sSet 3 (fVar 2))
def b_words_of_2_0e_0_1_0 : Fs := (sAug 3 (gI (fun i j => i + j)) (fC (.int 1)))
def b_words_of_2_0e_0_1 : Fs := (whF (fAnd (fB (fOp gLt (fVar 3) (fCBV gLen 0))) (fB (fOp gIn (fIxV 0 (fVar 3)) (fC (.str z_SIGNS))))) b_words_of_2_0e_0_1_0 1000000)
def b_words_of_2_0e_0_2 : Fs := (sSet 4 (fSl (fVar 0) (oSome (fVar 2)) (oSome (fVar 3))))
def b_words_of_2_0e_0_3_0 : Fs := (sRet (fC .non))
def b_words_of_2_0e_0_3 : Fs := (sIf (fAnd (fB (fOp gNi (fVar 4) (fC d_CLOSED))) (fAnd (tNot' (fB (fCall m_is_name (qCons (fVar 4) qNil)))) (tNot' (fB (fCall m_is_number (qCons (fVar 4) qNil)))))) b_words_of_2_0e_0_3_0 sNx)
def b_words_of_2_0e_0_4 : Fs := (sApp 1 (fVar 4))
def b_words_of_2_0e_0_5 : Fs := (sSet 2 (fVar 3))
def b_words_of_2_0e_0e_0 : Fs := (sSet 5 (fLc (iT (fC d_MARKS)) (gN 6) (fB (fOpV gEq (fSl (fVar 0) (oSome (fVar 2)) (oSome (fOp gAdd (fVar 2) (fCBV gLen 6)))) 6)) (fVar 6) [6]))
def b_words_of_2_0e_0e_1_0 : Fs := (sRet (fC .non))
def b_words_of_2_0e_0e_1 : Fs := (sIf (fB (fOp gEq (fCBV gLen 5) (fC (.int 0)))) b_words_of_2_0e_0e_1_0 sNx)
def b_words_of_2_0e_0e_2 : Fs := (sApp 1 (fIxV 5 (fC (.int 0))))
def b_words_of_2_0e_0e_3 : Fs := (sAug 2 (gI (fun i j => i + j)) (fCB gLen (qCons (fIxV 5 (fC (.int 0))) qNil)))
def b_words_of_2_0e_0 : Fs := (sIf (fB (fOp gIn (fIxV 0 (fVar 2)) (fC (.str z_SIGNS)))) (sSeq b_words_of_2_0e_0_0 (sSeq b_words_of_2_0e_0_1 (sSeq b_words_of_2_0e_0_2 (sSeq b_words_of_2_0e_0_3 (sSeq b_words_of_2_0e_0_4 b_words_of_2_0e_0_5))))) (sSeq b_words_of_2_0e_0e_0 (sSeq b_words_of_2_0e_0e_1 (sSeq b_words_of_2_0e_0e_2 b_words_of_2_0e_0e_3))))
def b_words_of_2_0 : Fs := (sIf (fB (fOp gEq (fIxV 0 (fVar 2)) (fC (.str [32])))) b_words_of_2_0_0 b_words_of_2_0e_0)
def b_words_of_2 : Fs := (whF (fB (fOp gLt (fVar 2) (fCBV gLen 0))) b_words_of_2_0 1000000)
def b_words_of_3 : Fs := (sRet (fVar 1))
def b_words_of : Fs :=
  (sSeq b_words_of_0 (sSeq b_words_of_1 (sSeq b_words_of_2 b_words_of_3)))
def m_words_of : List Dt → Option Dt := defF 1 7 b_words_of
set_option maxHeartbeats 4000000 in
theorem ok_words_of {P : Program} {w : World} {K : PySem.W.Frag} {mg : Str → Option Value} {base : Heap} {T : List Addr} {f : Addr} {fd : FuncData} (F : Fun K "words_of" "words_of" s_words_of f fd)
    {a_is_name : Addr} {fd_is_name : FuncData} (G_is_name : FnOk P w K mg base CX0 2 a_is_name fd_is_name ["text"] (spD K T m_is_name)) (g_is_name : mg "is_name" = some (.ref a_is_name)) (K_is_name : PySem.W.keepIn K (.ref a_is_name) = true) (B_is_name : Binds K fd_is_name ["text"] [])
    {a_is_number : Addr} {fd_is_number : FuncData} (G_is_number : FnOk P w K mg base CX0 2 a_is_number fd_is_number ["text"] (spD K T m_is_number)) (g_is_number : mg "is_number" = some (.ref a_is_number)) (K_is_number : PySem.W.keepIn K (.ref a_is_number) = true) (B_is_number : Binds K fd_is_number ["text"] [])
    {t_SIGNS : Tok} (g_SIGNS : mg "SIGNS" = some (.str ⟨z_SIGNS.toArray⟩ t_SIGNS))
    {a_CLOSED : Addr} (g_CLOSED : mg "CLOSED" = some (.ref a_CLOSED)) (r_CLOSED : ∀ H : Hp, Rp K H (.ref a_CLOSED) d_CLOSED)
    {a_MARKS : Addr} (g_MARKS : mg "MARKS" = some (.ref a_MARKS)) (r_MARKS : ∀ H : Hp, Rp K H (.ref a_MARKS) d_MARKS)
    (f_len : mg "len" = none) :
    FnOk P w K mg base CX0 3 f fd ["line"] (spD K T m_words_of) := by
  refine fn_dl F sc_words_of T b_words_of rfl rfl ?_
  intro A outer s H E B hr ET
  refine ⟨_, (pss_cons (ps_set (i := 1) sc_words_of.nd rfl (by first | exact .inl rfl | exact .inr rfl) (pe_lst pa_nil))
  (pss_cons (ps_set (i := 2) sc_words_of.nd rfl (by first | exact .inl rfl | exact .inr rfl) pe_int)
  (pss_cons (ps_while PassesOwn.never (pt_cmpR op_lt (pv 2) (pe_callB (xlen K) (by rfl) f_len (by decide +kernel) (pa_cons (pv 0) pa_nil)) (nomark _)) (pss_one (ps_if (pt_cmpR (xop_eq K hr) (pe_ix (xix K) (pv 0) (pv 2) (fun _ _ => rfl)) pe_str (nomark _)) (pss_one (ps_aug (i := 2) sc_words_of.nd rfl (by first | exact .inl rfl | exact .inr rfl) pe_int ip_add)) (pss_one (ps_if (pt_cmpR (xop_in K hr) (pe_ix (xix K) (pv 0) (pv 2) (fun _ _ => rfl)) (pe_glob (v := .str ⟨z_SIGNS.toArray⟩) (by rfl) g_SIGNS ⟨_, rfl⟩) (by rfl)) (pss_cons (ps_set (i := 3) sc_words_of.nd rfl (by first | exact .inl rfl | exact .inr rfl) (pv 2))
  (pss_cons (ps_while PassesOwn.never (PW.pt (pw_and (pt_cmpR op_lt (pv 3) (pe_callB (xlen K) (by rfl) f_len (by decide +kernel) (pa_cons (pv 0) pa_nil)) (nomark _)) (pw_and1 (pt_cmpR (xop_in K hr) (pe_ix (xix K) (pv 0) (pv 3) (fun _ _ => rfl)) (pe_glob (v := .str ⟨z_SIGNS.toArray⟩) (by rfl) g_SIGNS ⟨_, rfl⟩) (by rfl))))) (pss_one (ps_aug (i := 3) sc_words_of.nd rfl (by first | exact .inl rfl | exact .inr rfl) pe_int ip_add)))
  (pss_cons (ps_set (i := 4) sc_words_of.nd rfl (by first | exact .inl rfl | exact .inr rfl) (pe_slice (xsl K) (pv 0) (po_some (pv 2)) (po_some (pv 3))))
  (pss_cons (ps_if (PW.pt (pw_and (pt_cmpR (xop_ni K hr) (pv 4) (pe_glob (v := .ref a_CLOSED) (by rfl) g_CLOSED rfl) (by rfl)) (pw_and (pt_not (pt_val (pe_call G_is_name (hr.mono (by decide)) (by rfl) g_is_name K_is_name B_is_name .nil pass0 (pa_cons (pv 4) pa_nil)))) (pw_and1 (pt_not (pt_val (pe_call G_is_number (hr.mono (by decide)) (by rfl) g_is_number K_is_number B_is_number .nil pass0 (pa_cons (pv 4) pa_nil)))))))) (pss_one (ps_ret pe_non)) pss_nil)
  (pss_cons (ps_expr (pe_bm PySem.F.plainAttrs_list PySem.F.slot_list_append PySem.F.type_list_append mt_append (pv 1) (pa_cons (pv 4) pa_nil)))
  (pss_one (ps_set (i := 2) sc_words_of.nd rfl (by first | exact .inl rfl | exact .inr rfl) (pv 3)))))))) (pss_cons (ps_setLc (i := 5) (own := [("mark", 6)]) (g := gName 6) rfl sc_words_of.nd rfl rfl (sw_true rfl rfl rfl (by decide +kernel)) (pi_tup (pe_glob (v := .ref a_MARKS) (by rfl) g_MARKS rfl)) (blkOk_by (N := N_words_of) (sc := defScope s_words_of) (by decide +kernel)) (fun _ _ _ _ _ => (pg_name (i := 6) sc_words_of.nd rfl (by first | exact .inl rfl | exact .inr rfl))) (fun _ _ _ _ _ => (pts_one (pt_cmpR (xop_eq K hr) (pe_slice (xsl K) (pv 0) (po_some (pv 2)) (po_some (pe_op (xop_add K) (pv 2) (pe_callB (xlen K) (by rfl) f_len (by decide +kernel) (pa_cons (pv 6) pa_nil))))) (pv 6) (nomark _)))) (fun _ _ _ _ _ => (pv 6)))
  (pss_cons (ps_if (pt_cmpR (xop_eq K hr) (pe_callB (xlen K) (by rfl) f_len (by decide +kernel) (pa_cons (pv 5) pa_nil)) pe_int (nomark _)) (pss_one (ps_ret pe_non)) pss_nil)
  (pss_cons (ps_expr (pe_bm PySem.F.plainAttrs_list PySem.F.slot_list_append PySem.F.type_list_append mt_append (pv 1) (pa_cons (pe_ix (xix K) (pv 5) pe_int (fun _ _ => rfl)) pa_nil)))
  (pss_one (ps_aug (i := 2) sc_words_of.nd rfl (by first | exact .inl rfl | exact .inr rfl) (pe_callB (xlen K) (by rfl) f_len (by decide +kernel) (pa_cons (pe_ix (xix K) (pv 5) pe_int (fun _ _ => rfl)) pa_nil)) ip_add))))))))))
  (pss_one (ps_ret (pv 1)))))), ?_⟩
  unfold b_words_of
  exact (es_seq (es_set (ed_lst eq_nil))
  (es_seq (es_set (ed_c fun _ => .int _))
  (es_seq (es_while (eb_test (ed_op (ed_var 2) (ed_cbV rc_len) rd_lt)) (es_if (eb_test (ed_op (ed_ixV (ed_var 2)) (ed_c (rp_lit (by rfl))) rd_eq)) (es_aug (ed_c fun _ => .int _) rd_ip) (es_if (eb_test (ed_op (ed_ixV (ed_var 2)) (ed_c fun _ => .str _) rd_in)) (es_seq (es_set (ed_var 2))
  (es_seq (es_while (eb_and (eb_test (ed_op (ed_var 3) (ed_cbV rc_len) rd_lt)) (eb_test (ed_op (ed_ixV (ed_var 3)) (ed_c fun _ => .str _) rd_in))) (es_aug (ed_c fun _ => .int _) rd_ip))
  (es_seq (es_set (ed_sl (ed_var 0) (eo_some (ed_var 2)) (eo_some (ed_var 3))))
  (es_seq (es_if (eb_and (eb_test (ed_op (ed_var 4) (ed_c r_CLOSED) rd_ni)) (eb_and (eb_not (eb_val (ed_call ET (eq_cons (ed_var 4) eq_nil)))) (eb_not (eb_val (ed_call ET (eq_cons (ed_var 4) eq_nil)))))) (es_ret (ed_c fun _ => .non)) es_nx)
  (es_seq (es_app (ed_var 4))
  (es_set (ed_var 3))))))) (es_seq (es_set (ed_lc (ei_tup (ed_c r_MARKS)) eg_name (eb_test (ed_opV (ed_sl (ed_var 0) (eo_some (ed_var 2)) (eo_some (ed_op (ed_var 2) (ed_cbV rc_len) rd_addU))) rd_eq)) (ed_var 6) (by decide)))
  (es_seq (es_if (eb_test (ed_op (ed_cbV rc_len) (ed_c fun _ => .int _) rd_eq)) (es_ret (ed_c fun _ => .non)) es_nx)
  (es_seq (es_app (ed_ixV (ed_c fun _ => .int _)))
  (es_aug (ed_cb (eq_cons (ed_ixV (ed_c fun _ => .int _)) eq_nil) rc_len) rd_ip)))))))
  (es_ret (ed_var 1)))))
/-! ### _law_cell -/
abbrev s__law_cell : Stmt := topS 23
abbrev N__law_cell : List Str := ["script", "k"]
theorem sc__law_cell : FnScope N__law_cell ["script", "k"] (defScope s__law_cell) := ⟨rfl, rfl, rfl, by decide +kernel, rfl, by decide +kernel, by decide +kernel⟩
def b__law_cell_0_0 : Fs := (sRet (fIxV 0 (fVar 1)))
def b__law_cell_0 : Fs := (sIf (fB (fOp gLt (fVar 1) (fCBV gLen 0))) b__law_cell_0_0 sNx)
def b__law_cell_1 : Fs := (sRet (fC (.int 0)))
def b__law_cell : Fs :=
  (sSeq b__law_cell_0 b__law_cell_1)
def m__law_cell : List Dt → Option Dt := defF 2 2 b__law_cell
set_option maxHeartbeats 4000000 in
theorem ok__law_cell {P : Program} {w : World} {K : PySem.W.Frag} {mg : Str → Option Value} {base : Heap} {T : List Addr} {f : Addr} {fd : FuncData} (F : Fun K "_law_cell" "_law_cell" s__law_cell f fd)
    (f_len : mg "len" = none) :
    FnOk P w K mg base CX0 1 f fd ["script", "k"] (spD K T m__law_cell) := by
  refine fn_dl F sc__law_cell T b__law_cell rfl rfl ?_
  intro A outer s H E B hr ET
  refine ⟨_, (pss_cons (ps_if (pt_cmpR op_lt (pv 1) (pe_callB (xlen K) (by rfl) f_len (by decide +kernel) (pa_cons (pv 0) pa_nil)) (nomark _)) (pss_one (ps_ret (pe_ix (xix K) (pv 0) (pv 1) (fun _ _ => rfl)))) pss_nil)
  (pss_one (ps_ret pe_int))), ?_⟩
  unfold b__law_cell
  exact (es_seq (es_if (eb_test (ed_op (ed_var 1) (ed_cbV rc_len) rd_lt)) (es_ret (ed_ixV (ed_var 1))) es_nx)
  (es_ret (ed_c fun _ => .int _)))
/-! ### _law_draw -/
abbrev s__law_draw : Stmt := topS 24
abbrev N__law_draw : List Str := ["script", "k", "sizes", "cell", "drawn", "size", "mixed", "j"]
theorem sc__law_draw : FnScope N__law_draw ["script", "k", "sizes"] (defScope s__law_draw) := ⟨rfl, rfl, rfl, by decide +kernel, rfl, by decide +kernel, by decide +kernel⟩
def b__law_draw_0 : Fs := (sSet 3 (fCall m__law_cell (qCons (fVar 0) (qCons (fVar 1) qNil))))
def b__law_draw_1_0 : Fs := (sSet 3 (fUn gNeg (fVar 3)))
def b__law_draw_1 : Fs := (sIf (fB (fOp gLt (fVar 3) (fC (.int 0)))) b__law_draw_1_0 sNx)
def b__law_draw_2 : Fs := (sSet 4 (fLst qNil))
def b__law_draw_3_0 : Fs := (sSet 3 (fOp gSub (fVar 3) (fOp gPow (fC (.int 10)) (fC (.int 18)))))
def b__law_draw_3_1_0 : Fs := (sApp 4 (fOp gMod (fVar 3) (fVar 5)))
def b__law_draw_3_1_1 : Fs := (sSet 3 (fOp gDiv (fVar 3) (fVar 5)))
def b__law_draw_3_1 : Fs := (sFor (iL (fVar 2)) (gN 5) (sSeq b__law_draw_3_1_0 b__law_draw_3_1_1))
def b__law_draw_3_2 : Fs := (sRet (fVar 4))
def b__law_draw_3 : Fs := (sIf (fB (fOp gGe (fVar 3) (fOp gPow (fC (.int 10)) (fC (.int 18))))) (sSeq b__law_draw_3_0 (sSeq b__law_draw_3_1 b__law_draw_3_2)) sNx)
def b__law_draw_4 : Fs := (sSet 6 (fOp gMod (fOp gAdd (fOp gAdd (fVar 3) (fC (.int 1))) (fOp gMul (fC (.int 31)) (fVar 1))) (fC (.int 2147483647))))
def b__law_draw_5_0 : Fs := (sSet 6 (fOp gMod (fOp gAdd (fOp gAdd (fOp gMul (fVar 6) (fC (.int 48271))) (fC (.int 11))) (fVar 7)) (fC (.int 2147483647))))
def b__law_draw_5_1 : Fs := (sSet 6 (fOp gMod (fOp gAdd (fOp gMul (fVar 6) (fC (.int 69621))) (fC (.int 3))) (fC (.int 2147483647))))
def b__law_draw_5_2 : Fs := (sApp 4 (fOp gMod (fOp gDiv (fVar 6) (fC (.int 7))) (fIxV 2 (fVar 7))))
def b__law_draw_5 : Fs := (sFor (iR1 (qCons (fCBV gLen 2) qNil)) (gN 7) (sSeq b__law_draw_5_0 (sSeq b__law_draw_5_1 b__law_draw_5_2)))
def b__law_draw_6 : Fs := (sRet (fVar 4))
def b__law_draw : Fs :=
  (sSeq b__law_draw_0 (sSeq b__law_draw_1 (sSeq b__law_draw_2 (sSeq b__law_draw_3 (sSeq b__law_draw_4 (sSeq b__law_draw_5 b__law_draw_6))))))
def m__law_draw : List Dt → Option Dt := defF 3 8 b__law_draw
set_option maxHeartbeats 4000000 in
theorem ok__law_draw {P : Program} {w : World} {K : PySem.W.Frag} {mg : Str → Option Value} {base : Heap} {T : List Addr} {f : Addr} {fd : FuncData} (F : Fun K "_law_draw" "_law_draw" s__law_draw f fd)
    {a__law_cell : Addr} {fd__law_cell : FuncData} (G__law_cell : FnOk P w K mg base CX0 1 a__law_cell fd__law_cell ["script", "k"] (spD K T m__law_cell)) (g__law_cell : mg "_law_cell" = some (.ref a__law_cell)) (K__law_cell : PySem.W.keepIn K (.ref a__law_cell) = true) (B__law_cell : Binds K fd__law_cell ["script", "k"] [])
    (f_range : mg "range" = none)
    (f_len : mg "len" = none) :
    FnOk P w K mg base CX0 2 f fd ["script", "k", "sizes"] (spD K T m__law_draw) := by
  refine fn_dl F sc__law_draw T b__law_draw rfl rfl ?_
  intro A outer s H E B hr ET
  refine ⟨_, (pss_cons (ps_set (i := 3) sc__law_draw.nd rfl (by first | exact .inl rfl | exact .inr rfl) (pe_call G__law_cell (hr.mono (by decide)) (by rfl) g__law_cell K__law_cell B__law_cell .nil pass0 (pa_cons (pv 0) (pa_cons (pv 1) pa_nil))))
  (pss_cons (ps_if (pt_cmpR op_lt (pv 3) pe_int (nomark _)) (pss_one (ps_set (i := 3) sc__law_draw.nd rfl (by first | exact .inl rfl | exact .inr rfl) (pe_un un_neg (pv 3)))) pss_nil)
  (pss_cons (ps_set (i := 4) sc__law_draw.nd rfl (by first | exact .inl rfl | exact .inr rfl) (pe_lst pa_nil))
  (pss_cons (ps_if (pt_cmpR op_ge (pv 3) (pe_op op_pow pe_int pe_int) (nomark _)) (pss_cons (ps_set (i := 3) sc__law_draw.nd rfl (by first | exact .inl rfl | exact .inr rfl) (pe_op op_sub (pv 3) (pe_op op_pow pe_int pe_int)))
  (pss_cons (ps_for PassesOwn.never rfl (pi_list (pv 2)) (pg_name (i := 5) sc__law_draw.nd rfl (by first | exact .inl rfl | exact .inr rfl)) (pss_cons (ps_expr (pe_bm PySem.F.plainAttrs_list PySem.F.slot_list_append PySem.F.type_list_append mt_append (pv 4) (pa_cons (pe_op op_mod (pv 3) (pv 5)) pa_nil)))
  (pss_one (ps_set (i := 3) sc__law_draw.nd rfl (by first | exact .inl rfl | exact .inr rfl) (pe_op op_fdiv (pv 3) (pv 5))))))
  (pss_one (ps_ret (pv 4))))) pss_nil)
  (pss_cons (ps_set (i := 6) sc__law_draw.nd rfl (by first | exact .inl rfl | exact .inr rfl) (pe_op op_mod (pe_op (xop_add K) (pe_op (xop_add K) (pv 3) pe_int) (pe_op op_mulU pe_int (pv 1))) pe_int))
  (pss_cons (ps_for PassesOwn.never rfl (pi_range1 (by rfl) f_range (pa_cons (pe_callB (xlen K) (by rfl) f_len (by decide +kernel) (pa_cons (pv 2) pa_nil)) pa_nil)) (pg_name (i := 7) sc__law_draw.nd rfl (by first | exact .inl rfl | exact .inr rfl)) (pss_cons (ps_set (i := 6) sc__law_draw.nd rfl (by first | exact .inl rfl | exact .inr rfl) (pe_op op_mod (pe_op (xop_add K) (pe_op (xop_add K) (pe_op op_mulU (pv 6) pe_int) pe_int) (pv 7)) pe_int))
  (pss_cons (ps_set (i := 6) sc__law_draw.nd rfl (by first | exact .inl rfl | exact .inr rfl) (pe_op op_mod (pe_op (xop_add K) (pe_op op_mulU (pv 6) pe_int) pe_int) pe_int))
  (pss_one (ps_expr (pe_bm PySem.F.plainAttrs_list PySem.F.slot_list_append PySem.F.type_list_append mt_append (pv 4) (pa_cons (pe_op op_mod (pe_op op_fdiv (pv 6) pe_int) (pe_ix (xix K) (pv 2) (pv 7) (fun _ _ => rfl))) pa_nil)))))))
  (pss_one (ps_ret (pv 4))))))))), ?_⟩
  unfold b__law_draw
  exact (es_seq (es_set (ed_call ET (eq_cons (ed_var 0) (eq_cons (ed_var 1) eq_nil))))
  (es_seq (es_if (eb_test (ed_op (ed_var 3) (ed_c fun _ => .int _) rd_lt)) (es_set (ed_un (ed_var 3) rd_neg)) es_nx)
  (es_seq (es_set (ed_lst eq_nil))
  (es_seq (es_if (eb_test (ed_op (ed_var 3) (ed_op (ed_c fun _ => .int _) (ed_c fun _ => .int _) rd_pow) rd_ge)) (es_seq (es_set (ed_op (ed_var 3) (ed_op (ed_c fun _ => .int _) (ed_c fun _ => .int _) rd_pow) rd_sub))
  (es_seq (es_for (ei_list (ed_var 2)) eg_name (es_seq (es_app (ed_op (ed_var 3) (ed_var 5) rd_mod))
  (es_set (ed_op (ed_var 3) (ed_var 5) rd_div))))
  (es_ret (ed_var 4)))) es_nx)
  (es_seq (es_set (ed_op (ed_op (ed_op (ed_var 3) (ed_c fun _ => .int _) rd_addU) (ed_op (ed_c fun _ => .int _) (ed_var 1) rd_mulU) rd_addU) (ed_c fun _ => .int _) rd_mod))
  (es_seq (es_for (ei_r1 (eq_cons (ed_cbV rc_len) eq_nil)) eg_name (es_seq (es_set (ed_op (ed_op (ed_op (ed_op (ed_var 6) (ed_c fun _ => .int _) rd_mulU) (ed_c fun _ => .int _) rd_addU) (ed_var 7) rd_addU) (ed_c fun _ => .int _) rd_mod))
  (es_seq (es_set (ed_op (ed_op (ed_op (ed_var 6) (ed_c fun _ => .int _) rd_mulU) (ed_c fun _ => .int _) rd_addU) (ed_c fun _ => .int _) rd_mod))
  (es_app (ed_op (ed_op (ed_var 6) (ed_c fun _ => .int _) rd_div) (ed_ixV (ed_var 7)) rd_mod)))))
  (es_ret (ed_var 4))))))))
end DK06
set_option Elab.async false
set_option linter.all false
set_option maxRecDepth 100000
namespace DK06
open PySem DL
/-- what is drawn is in its range -/
def InR (ds sizes : List Int) : Prop := ds.length = sizes.length ∧ ∀ (i : Nat) (d s : Int), ds[i]? = some d → sizes[i]? = some s → 0 ≤ d ∧ d < s
def szOk (s : Int) : Bool := decide (0 < s) && decide (s < 1073741824)
theorem InR.snoc {ds sizes : List Int} {d s : Int} (h : InR ds sizes) (h0 : 0 ≤ d) (h1 : d < s) : InR (ds ++ [d]) (sizes ++ [s]) := by
  obtain ⟨hl, hr⟩ := h
  refine ⟨by simp [hl], fun i d' s' e1 e2 => ?_⟩
  by_cases hi : i < ds.length
  · rw [List.getElem?_append_left hi] at e1
    rw [List.getElem?_append_left (by omega)] at e2
    exact hr i d' s' e1 e2
  · rw [List.getElem?_append_right (by omega)] at e1
    rw [List.getElem?_append_right (by omega)] at e2
    have z : i - ds.length = 0 := by
      have := (List.getElem?_eq_some_iff.mp e1).1
      simp at this
      omega
    rw [z] at e1
    have z2 : i - sizes.length = 0 := by omega
    rw [z2] at e2
    simp at e1 e2
    omega
theorem cell_sem (ns : List Int) (k : Nat) : ∃ c, m__law_cell [.lst (ns.map .int), .int k] = some (.int c) := by
  by_cases h : k < ns.length
  · refine ⟨ns[k], ?_⟩
    simp [m__law_cell, defF, entE, runB, b__law_cell, sSeq, b__law_cell_0, sIf, fB, pur, fOp, fVar, frz, fCBV, vwE, gLen, scl, gLt, gIB, h, b__law_cell_0_0, sRet, fIxV, gIx, atN]
  · refine ⟨0, ?_⟩
    simp [m__law_cell, defF, entE, runB, b__law_cell, sSeq, b__law_cell_0, sIf, fB, pur, fOp, fVar, frz, fCBV, vwE, gLen, scl, gLt, gIB, h, b__law_cell_1, sRet, sNx, fC]
theorem draw_loop1 (x0 x1 x2 x6 x7 : Option Ow) : ∀ (sizes done : List Int) (cell : Int) (acc : List Int) (x5 : Option Ow), InR acc done → (∀ s ∈ sizes, szOk s = true) → acc.length + sizes.length < 1000 → 
    ∃ (ds : List Int) (c' : Int) (x5' : Option Ow), InR ds (done ++ sizes) ∧
      forF (gN 5) (sSeq b__law_draw_3_1_0 b__law_draw_3_1_1) (sizes.map .int) [x0, x1, x2, some (.sh (.int cell)), some (.lst (acc.map .int)), x5, x6, x7]
        = some (.nx [x0, x1, x2, some (.sh (.int c')), some (.lst (ds.map .int)), x5', x6, x7])
  | [], done, cell, acc, x5, h, _, _ => ⟨acc, cell, x5, by simpa using h, by simp [forF]⟩
  | s :: sizes, done, cell, acc, x5, h, hs, hl => by
    have h1 := hs s (by simp)
    simp only [szOk, Bool.and_eq_true, decide_eq_true_eq] at h1
    have hsn := h.snoc (Int.emod_nonneg cell (by omega : s ≠ 0)) (Int.emod_lt_of_pos cell h1.1)
    obtain ⟨ds, c', x5', r1, r2⟩ := draw_loop1 x0 x1 x2 x6 x7 sizes (done ++ [s]) (cell / s) (acc ++ [cell % s]) (some (.sh (.int s))) hsn (fun t ht => hs t (by simp [ht])) (by simp at hl ⊢; omega)
    refine ⟨ds, c', x5', by simpa using r1, ?_⟩
    rw [← r2]
    have hz : Nat.blt acc.length 16777216 = true := by
      simp [Nat.blt]
      simp at hl
      omega
    simp [forF, gN, setE, sSeq, b__law_draw_3_1_0, b__law_draw_3_1_1, sApp, pur, fOp, fVar, frz, gMod, gIC, modOk, h1, sSet, gDiv, divOk, hz]
/-- the turns from a on -/
def tn (a : Nat) : Nat → List Dt
  | 0 => []
  | n + 1 => .int (a : Nat) :: tn (a + 1) n
theorem tn_range' : ∀ (n a : Nat), tn a n = (List.range' a n).map fun i => .int (0 + (i : Nat))
  | 0, a => rfl
  | n + 1, a => by
    rw [List.range'_succ, List.map_cons, ← tn_range' n (a + 1)]
    simp [tn]
theorem rngD_tn (n : Nat) : rngD 0 n = tn 0 n := by
  unfold rngD
  rw [tn_range', List.range_eq_range']
theorem draw_loop2 (x0 x1 x3 x5 : Option Ow) (sizes : List Int) (hs : ∀ s ∈ sizes, szOk s = true) (hl : sizes.length < 1000) : ∀ (rest done acc : List Int) (mixed : Int) (x7 : Option Ow), sizes = done ++ rest → InR acc done → 
    ∃ (ds : List Int) (x6' x7' : Option Ow), InR ds sizes ∧
      forF (gN 7) (sSeq b__law_draw_5_0 (sSeq b__law_draw_5_1 b__law_draw_5_2)) (tn done.length rest.length) [x0, x1, some (.sh (.lst (sizes.map .int))), x3, some (.lst (acc.map .int)), x5, some (.sh (.int mixed)), x7]
        = some (.nx [x0, x1, some (.sh (.lst (sizes.map .int))), x3, some (.lst (ds.map .int)), x5, x6', x7'])
  | [], done, acc, mixed, x7, e, h => ⟨acc, some (.sh (.int mixed)), x7, by rw [e]; simpa using h, by simp [forF, tn]⟩
  | s :: rest, done, acc, mixed, x7, e, h => by
    have h1 := hs s (by rw [e]; simp)
    simp only [szOk, Bool.and_eq_true, decide_eq_true_eq] at h1
    have hget : sizes[done.length]? = some s := by rw [e]; simp
    generalize hm1 : (mixed * 48271 + 11 + (done.length : Int)) % 2147483647 = m1
    generalize hm2 : (m1 * 69621 + 3) % 2147483647 = m2
    have hsn := h.snoc (Int.emod_nonneg (m2 / 7) (by omega : s ≠ 0)) (Int.emod_lt_of_pos (m2 / 7) h1.1)
    obtain ⟨ds, x6', x7', r1, r2⟩ := draw_loop2 x0 x1 x3 x5 sizes hs hl rest (done ++ [s]) (acc ++ [m2 / 7 % s]) m2 (some (.sh (.int (done.length : Nat)))) (by rw [e]; simp) hsn
    refine ⟨ds, x6', x7', r1, ?_⟩
    rw [← r2]
    have hlen : done.length < sizes.length := by rw [e]; simp
    have hal : acc.length = done.length := h.1
    have hz : Nat.blt acc.length 16777216 = true := by
      simp [Nat.blt]
      omega
    have hget2 : sizes[done.length] = s := by
      have := List.getElem?_eq_some_iff.mp hget
      exact this.2
    simp [forF, tn, gN, setE, sSeq, b__law_draw_5_0, b__law_draw_5_1, b__law_draw_5_2, sApp, pur, fOp, fVar, fC, frz, gMod, gDiv, gAdd, gMul, gMulS, gIC, modOk, divOk, mulOk, ibd, h1, sSet, hz, hm1, hm2, fIxV, vwE, gIx, atN, hlen, hget2]
theorem draw_key1 (ns sizes : List Int) (k : Nat) (hs : ∀ s ∈ sizes, szOk s = true) (hl : sizes.length < 1000) (c' : Int) (hb : (1000000000000000000 : Int) ≤ c') : ∃ ds : List Int, InR ds sizes ∧ runB (sSeq b__law_draw_2 (sSeq b__law_draw_3 (sSeq b__law_draw_4 (sSeq b__law_draw_5 b__law_draw_6))))
      [some (.sh (.lst (ns.map .int))), some (.sh (.int k)), some (.sh (.lst (sizes.map .int))), some (.sh (.int c')), none, none, none, none] = some (.lst (ds.map .int)) := by
  obtain ⟨ds, c2, x5', r1, r2⟩ := draw_loop1 (some (.sh (.lst (ns.map .int)))) (some (.sh (.int k))) (some (.sh (.lst (sizes.map .int)))) none none sizes [] (c' - 1000000000000000000) [] none ⟨rfl, by simp⟩ hs (by simpa using hl)
  refine ⟨ds, by simpa using r1, ?_⟩
  simp only [List.map_nil] at r2
  simp [runB, sSeq, b__law_draw_2, sSet, fLst, qNil, setE, b__law_draw_3, sIf, fB, pur, fOp, fVar, fC, frz, gPow, gIC, powOk, gGe, gIB, hb, b__law_draw_3_0, gSub, gI, b__law_draw_3_1, sFor, iL, r2, b__law_draw_3_2, sRet]
theorem draw_key2 (ns sizes : List Int) (k : Nat) (hs : ∀ s ∈ sizes, szOk s = true) (hl : sizes.length < 1000) (c' : Int) (hb : ¬ (1000000000000000000 : Int) ≤ c') : ∃ ds : List Int, InR ds sizes ∧ runB (sSeq b__law_draw_2 (sSeq b__law_draw_3 (sSeq b__law_draw_4 (sSeq b__law_draw_5 b__law_draw_6))))
      [some (.sh (.lst (ns.map .int))), some (.sh (.int k)), some (.sh (.lst (sizes.map .int))), some (.sh (.int c')), none, none, none, none] = some (.lst (ds.map .int)) := by
  obtain ⟨ds, x6', x7', r1, r2⟩ := draw_loop2 (some (.sh (.lst (ns.map .int)))) (some (.sh (.int k))) (some (.sh (.int c'))) none sizes hs hl sizes [] [] ((c' + 1 + 31 * (k : Int)) % 2147483647) none rfl ⟨rfl, by simp⟩
  refine ⟨ds, r1, ?_⟩
  have hrg : ibd 1000000000 (sizes.length : Int) = true := ibd_nat (by omega)
  simp only [List.map_nil, List.length_nil] at r2
  have e4 : b__law_draw_4 [some (.sh (.lst (ns.map .int))), some (.sh (.int k)), some (.sh (.lst (sizes.map .int))), some (.sh (.int c')), some (.lst []), none, none, none]
      = some (.nx [some (.sh (.lst (ns.map .int))), some (.sh (.int k)), some (.sh (.lst (sizes.map .int))), some (.sh (.int c')), some (.lst []), none, some (.sh (.int ((c' + 1 + 31 * (k : Int)) % 2147483647))), none]) := by
    simp [b__law_draw_4, sSet, fOp, pur, fVar, fC, frz, gAdd, gMul, gMulS, mulOk, ibd, gIC, gMod, modOk, setE]
  have e50 : iR1 (qCons (fCBV gLen 2) qNil) [some (.sh (.lst (ns.map .int))), some (.sh (.int k)), some (.sh (.lst (sizes.map .int))), some (.sh (.int c')), some (.lst []), none, some (.sh (.int ((c' + 1 + 31 * (k : Int)) % 2147483647))), none]
      = some (tn 0 sizes.length, [some (.sh (.lst (ns.map .int))), some (.sh (.int k)), some (.sh (.lst (sizes.map .int))), some (.sh (.int c')), some (.lst []), none, some (.sh (.int ((c' + 1 + 31 * (k : Int)) % 2147483647))), none]) := by
    have eq : qCons (fCBV gLen 2) qNil [some (.sh (.lst (ns.map .int))), some (.sh (.int k)), some (.sh (.lst (sizes.map .int))), some (.sh (.int c')), some (.lst []), none, some (.sh (.int ((c' + 1 + 31 * (k : Int)) % 2147483647))), none] =
        some ([.int (sizes.length : Nat)], [some (.sh (.lst (ns.map .int))), some (.sh (.int k)), some (.sh (.lst (sizes.map .int))), some (.sh (.int c')), some (.lst []), none, some (.sh (.int ((c' + 1 + 31 * (k : Int)) % 2147483647))), none]) := by
      simp [qCons, qNil, pur, fCBV, vwE, gLen, scl, frz]
    unfold iR1
    rw [eq]
    dsimp only
    rw [hrg, if_pos rfl, Int.toNat_natCast, rngD_tn]
  have e5 : b__law_draw_5 [some (.sh (.lst (ns.map .int))), some (.sh (.int k)), some (.sh (.lst (sizes.map .int))), some (.sh (.int c')), some (.lst []), none, some (.sh (.int ((c' + 1 + 31 * (k : Int)) % 2147483647))), none]
      = some (.nx [some (.sh (.lst (ns.map .int))), some (.sh (.int k)), some (.sh (.lst (sizes.map .int))), some (.sh (.int c')), some (.lst (ds.map .int)), none, x6', x7']) := by
    have e6 : b__law_draw_5 = sFor (iR1 (qCons (fCBV gLen 2) qNil)) (gN 7) (sSeq b__law_draw_5_0 (sSeq b__law_draw_5_1 b__law_draw_5_2)) := rfl
    rw [e6, ← r2]
    unfold sFor
    simp only [e50]
  simp [runB, sSeq, b__law_draw_2, sSet, fLst, qNil, setE, b__law_draw_3, sIf, fB, pur, fOp, fVar, fC, frz, gPow, gIC, powOk, gGe, gIB, hb, sNx, e4, e5, b__law_draw_6, sRet]
theorem draw_sem (ns sizes : List Int) (k : Nat) (hs : ∀ s ∈ sizes, szOk s = true) (hl : sizes.length < 1000) : ∃ ds : List Int, InR ds sizes ∧ m__law_draw [.lst (ns.map .int), .int k, .lst (sizes.map .int)] = some (.lst (ds.map .int)) := by
  obtain ⟨c, hc⟩ := cell_sem ns k
  have key : ∀ c' : Int, ∃ ds : List Int, InR ds sizes ∧ runB (sSeq b__law_draw_2 (sSeq b__law_draw_3 (sSeq b__law_draw_4 (sSeq b__law_draw_5 b__law_draw_6))))
      [some (.sh (.lst (ns.map .int))), some (.sh (.int k)), some (.sh (.lst (sizes.map .int))), some (.sh (.int c')), none, none, none, none] = some (.lst (ds.map .int)) := fun c' => by
    by_cases hb : (1000000000000000000 : Int) ≤ c'
    · exact draw_key1 ns sizes k hs hl c' hb
    · exact draw_key2 ns sizes k hs hl c' hb
  by_cases h0 : c < 0
  · obtain ⟨ds, r1, r2⟩ := key (-c)
    refine ⟨ds, r1, ?_⟩
    rw [← r2]
    simp [m__law_draw, defF, entE, b__law_draw, runB, sSeq, b__law_draw_0, sSet, fCall, qCons, qNil, pur, fVar, frz, hc, setE, b__law_draw_1, sIf, fB, fOp, fC, gLt, gIB, h0, b__law_draw_1_0, fUn, gNeg]
  · obtain ⟨ds, r1, r2⟩ := key c
    refine ⟨ds, r1, ?_⟩
    rw [← r2]
    simp [m__law_draw, defF, entE, b__law_draw, runB, sSeq, b__law_draw_0, sSet, fCall, qCons, qNil, pur, fVar, frz, hc, setE, b__law_draw_1, sIf, fB, fOp, fC, gLt, gIB, h0, sNx]
end DK06
set_option Elab.async false
set_option linter.all false
set_option maxRecDepth 100000
namespace DK06
open PySem DL
def isTr : Option Dt → Bool
  | some (.bl true) => true
  | _ => false
/-- the words that may stand in a text -/
def okW (w : List Nat) : Option Bool := match inB (.str w) d_CLOSED with
  | some true => some true
  | some false => match m_is_name [.str w] with
    | some (.bl true) => some true
    | some (.bl false) => match m_is_number [.str w] with
      | some (.bl b) => some b
      | _ => none
    | _ => none
  | none => none
def mks : List (List Nat) := [[60, 45, 62], [45, 62], [60, 61], [62, 61], [46, 46], [40], [41], [123], [125], [44], [58], [61], [35], [60], [62], [43], [45], [42], [47]]
theorem mks_d : d_MARKS = .tup (mks.map .str) := rfl
def mkAt (r : List Nat) : List (List Nat) := mks.filter fun m => r.take m.length == m
def isSg (c : Nat) : Bool := z_SIGNS.contains c
def hdN : List Nat → Bool
  | [] => true
  | c :: _ => !isSg c
/-- what is read off a text -/
inductive Lx : List Nat → Option (List (List Nat)) → Prop
  | nil : Lx [] (some [])
  | sp {r o} : Lx r o → Lx (32 :: r) o
  | word {c w r o} : isSg c = true → c ≠ 32 → w.all isSg = true → hdN r = true → okW (c :: w) = some true → Lx r o → Lx ((c :: w) ++ r) (o.map ((c :: w) :: ·))
  | bad {c w r} : isSg c = true → c ≠ 32 → w.all isSg = true → hdN r = true → okW (c :: w) = some false → Lx ((c :: w) ++ r) none
  | mark {c m r o ms} : isSg c = false → c ≠ 32 → mkAt ((c :: m) ++ r) = (c :: m) :: ms → Lx r o → Lx ((c :: m) ++ r) (o.map ((c :: m) :: ·))
  | nomark {c r} : isSg c = false → c ≠ 32 → mkAt (c :: r) = [] → Lx (c :: r) none
theorem cut_at (pre w rest : List Nat) (k : Nat) (hk : k = w.length) : cutD (pre ++ (w ++ rest)) (some (pre.length : Int)) (some ((pre.length : Int) + (k : Int))) = w := by
  subst hk
  unfold cutD ixS
  have h1 : ¬ ((pre.length : Int) < 0) := by omega
  have h2 : ¬ ((pre.length : Int) + (w.length : Int) < 0) := by omega
  dsimp only
  rw [if_neg h1, if_neg h2]
  have h3 : ((pre.length : Int) + (w.length : Int)).toNat = pre.length + w.length := by omega
  rw [h3, Int.toNat_natCast, List.length_append, List.length_append, Nat.min_eq_left (by omega), Nat.min_eq_left (by omega), List.drop_left, Nat.add_sub_cancel_left, List.take_left]
theorem cut_tk (pre r : List Nat) (k : Nat) : cutD (pre ++ r) (some (pre.length : Int)) (some ((pre.length : Int) + (k : Int))) = r.take k := by
  unfold cutD ixS
  have h1 : ¬ ((pre.length : Int) < 0) := by omega
  have h2 : ¬ ((pre.length : Int) + (k : Int) < 0) := by omega
  dsimp only
  rw [if_neg h1, if_neg h2]
  have h3 : ((pre.length : Int) + (k : Int)).toNat = pre.length + k := by omega
  have h4 : min pre.length (pre ++ r).length = pre.length := Nat.min_eq_left (by simp)
  rw [h3, Int.toNat_natCast, h4, List.drop_left, List.length_append]
  by_cases h : k ≤ r.length
  · rw [show min (pre.length + k) (pre.length + r.length) = pre.length + k from Nat.min_eq_left (by omega), Nat.add_sub_cancel_left]
  · rw [show min (pre.length + k) (pre.length + r.length) = pre.length + r.length from Nat.min_eq_right (by omega), Nat.add_sub_cancel_left, List.take_of_length_le (by omega), List.take_of_length_le (by omega)]
def lxE (L : List Nat) (f : List (List Nat)) (p : Nat) (x3 x4 x5 x6 : Option Ow) : DEnv := [some (.sh (.str L)), some (.lst (f.map .str)), some (.sh (.int (p : Int))), x3, x4, x5, x6]
theorem sub_app (a b c d : List Nat) (h : a ++ b = c ++ d) (e : a.length = c.length) : a = c ∧ b = d := List.append_inj h e
theorem ixL (pre r : List Nat) (c : Nat) (hl : (pre ++ c :: r).length < 10000) : gIx (.str (pre ++ c :: r)) (.int (pre.length : Int)) = some (.sh (.str [c])) := by
  have h1 : Nat.ble (pre ++ c :: r).length 16777216 = true := Nat.ble_eq_true_of_le (by omega)
  have h2 : atN (pre ++ c :: r).length (pre.length : Int) = some pre.length := by
    unfold atN
    rw [if_pos (by omega), if_pos (by simp; omega), Int.toNat_natCast]
  simp only [gIx, h1, h2, if_true]
  rw [List.getElem?_append_right (Nat.le_refl _)]
  simp
/-- the run over the signs of a word -/
theorem scan (pre : List Nat) (f : List (List Nat)) (p : Nat) (x4 x5 x6 : Option Ow) (r : List Nat) (hr : hdN r = true) : ∀ (w pr : List Nat) (n : Nat), w.all isSg = true → w.length < n → (pr ++ (w ++ r)).length < 10000 →
    whF (fAnd (fB (fOp gLt (fVar 3) (fCBV gLen 0))) (fB (fOp gIn (fIxV 0 (fVar 3)) (fC (.str z_SIGNS))))) b_words_of_2_0e_0_1_0 n (lxE (pr ++ (w ++ r)) f p (some (.sh (.int (pr.length : Int)))) x4 x5 x6)
      = some (.nx (lxE (pr ++ (w ++ r)) f p (some (.sh (.int ((pr ++ w).length : Int)))) x4 x5 x6))
  | [], pr, n + 1, _, _, hl => by
    have hb : Nat.ble (pr ++ r).length 16777216 = true := Nat.ble_eq_true_of_le (by simp at hl ⊢; omega)
    simp only [List.nil_append, List.append_nil] at hl ⊢
    cases r with
    | nil =>
      simp only [List.append_nil] at *
      simp [whF, lxE, fAnd, fB, pur, fOp, fVar, frz, fCBV, vwE, gLen, scl, gLt, gIB, hb]
    | cons c r =>
      have ix := ixL pr r c hl
      have hc : ¬ c ∈ z_SIGNS := by
        simpa [hdN, isSg] using hr
      have hlt : (pr.length : Int) < ((pr ++ c :: r).length : Int) := by simp; omega
      simp only [whF, lxE, fAnd, fB, pur, fOp, fVar, frz, fCBV, vwE, gLen, scl, gLt, gIB, hb, fIxV, List.getElem?_cons_zero, List.getElem?_cons_succ, if_true, ix, fC, gIn, inB, hlt, decide_true]
      simp [hc]
  | c :: w, pr, n + 1, hw, hn, hl => by
    simp only [List.all_cons, Bool.and_eq_true] at hw
    have hb : Nat.ble (pr ++ (c :: w ++ r)).length 16777216 = true := Nat.ble_eq_true_of_le (by omega)
    have ix := ixL pr (w ++ r) c hl
    have hc : z_SIGNS.contains c = true := hw.1
    have hlt : (pr.length : Int) < ((pr ++ (c :: w ++ r)).length : Int) := by simp; omega
    have ih := scan pre f p x4 x5 x6 r hr w (pr ++ [c]) n hw.2 (by simp at hn; omega) (by simpa using hl)
    have e1 : pr ++ [c] ++ (w ++ r) = pr ++ (c :: w ++ r) := by simp
    have e2 : pr ++ [c] ++ w = pr ++ (c :: w) := by simp
    have e3 : ((pr ++ [c]).length : Int) = (pr.length : Int) + 1 := by simp
    rw [e1, e2, e3] at ih
    rw [← ih]
    have ix2 : gIx (Dt.str (pr ++ (c :: w ++ r))) (.int (pr.length : Int)) = some (.sh (.str [c])) := ix
    have hc2 : (fAnd (fB (fOp gLt (fVar 3) (fCBV gLen 0))) (fB (fOp gIn (fIxV 0 (fVar 3)) (fC (.str z_SIGNS))))) (lxE (pr ++ (c :: w ++ r)) f p (some (.sh (.int (pr.length : Int)))) x4 x5 x6) = some (true, lxE (pr ++ (c :: w ++ r)) f p (some (.sh (.int (pr.length : Int)))) x4 x5 x6) := by
      simp only [lxE, fAnd, fB, pur, fOp, fVar, frz, fCBV, vwE, gLen, scl, gLt, gIB, hb, fIxV, List.getElem?_cons_zero, List.getElem?_cons_succ, if_true, ix2, fC, gIn, inB, hlt, decide_true, hc]
    have hb2 : b_words_of_2_0e_0_1_0 (lxE (pr ++ (c :: w ++ r)) f p (some (.sh (.int (pr.length : Int)))) x4 x5 x6) = some (.nx (lxE (pr ++ (c :: w ++ r)) f p (some (.sh (.int ((pr.length : Int) + 1)))) x4 x5 x6)) := by
      simp [b_words_of_2_0e_0_1_0, lxE, sAug, pur, fC, frz, gI, setE]
    rw [whF, hc2]
    simp only [if_true, hb2]
  | [], _, 0, _, h, _ => absurd h (by simp)
  | _ :: _, _, 0, _, h, _ => absurd h (by simp)
/-- the marks that stand at a place -/
theorem mk_loop (L pre r : List Nat) (hL : L = pre ++ r) (hl : L.length < 10000) (f : List (List Nat)) (x3 x4 x5 : Option Ow) : ∀ (ms : List (List Nat)) (x6 : Option Ow), (∀ m ∈ ms, m.length ≤ 3 ∧ m.all (· < 1000) = true) → r.all (· < 1000) = true →
    ∃ x6', lcF (gN 6) (fB (fOpV gEq (fSl (fVar 0) (oSome (fVar 2)) (oSome (fOp gAdd (fVar 2) (fCBV gLen 6)))) 6)) (fVar 6) [6] (ms.map .str) (lxE L f pre.length x3 x4 x5 x6)
      = some ((ms.filter fun m => r.take m.length == m).map .str, lxE L f pre.length x3 x4 x5 x6')
  | [], x6, _, _ => ⟨x6, rfl⟩
  | m :: ms, x6, hm, hr => by
    have hm1 := hm m (by simp)
    have hb : Nat.ble L.length 16777216 = true := Nat.ble_eq_true_of_le (by omega)
    have hbm : Nat.ble m.length 16777216 = true := Nat.ble_eq_true_of_le (by omega)
    have hcut : cutD L (some (pre.length : Int)) (some ((pre.length : Int) + (m.length : Int))) = r.take m.length := by rw [hL]; exact cut_tk pre r m.length
    have hs1 : (Dt.str (r.take m.length)).shp = true := by
      simp only [Dt.shp, Dt.sgn, Dt.dep, Bool.and_eq_true]
      refine ⟨?_, by decide⟩
      rw [List.all_eq_true] at hr ⊢
      intro x hx
      have := hr x (List.mem_of_mem_take hx)
      simp at this ⊢
      omega
    have hs2 : (Dt.str m).shp = true := by
      simp only [Dt.shp, Dt.sgn, Dt.dep, Bool.and_eq_true]
      refine ⟨?_, by decide⟩
      have hm2 := hm1.2
      rw [List.all_eq_true] at hm2 ⊢
      intro x hx
      have := hm2 x hx
      simp at this ⊢
      omega
    obtain ⟨x6', ih⟩ := mk_loop L pre r hL hl f x3 x4 x5 ms none (fun m' h' => hm m' (by simp [h'])) hr
    refine ⟨x6', ?_⟩
    simp only [lxE] at ih
    by_cases q : (List.take m.length r == m) = true
    · simp [lcF, gN, setE, lxE, fB, fOpV, fSl, pur, fVar, frz, oSome, fOp, fCBV, vwE, gLen, scl, gAdd, gSl, hb, hbm, hcut, gEq, hs1, hs2, eqD, q, wipeE, ih, List.filter_cons]
    · simp only [Bool.not_eq_true] at q
      simp [lcF, gN, setE, lxE, fB, fOpV, fSl, pur, fVar, frz, oSome, fOp, fCBV, vwE, gLen, scl, gAdd, gSl, hb, hbm, hcut, gEq, hs1, hs2, eqD, q, wipeE, ih, List.filter_cons]
end DK06
set_option Elab.async false
set_option linter.all false
set_option maxRecDepth 100000
namespace DK06
open PySem DL
theorem shp1 {c : Nat} (h : c < 1000) : (Dt.str [c]).shp = true := by
  simp only [Dt.shp, Dt.sgn, Dt.dep, Bool.and_eq_true]
  refine ⟨?_, by decide⟩
  simp
  omega
theorem body_sp (L : List Nat) (f : List (List Nat)) (p : Nat) (x3 x4 x5 x6 : Option Ow) (hix : gIx (.str L) (.int (p : Int)) = some (.sh (.str [32]))) :
    b_words_of_2_0 (lxE L f p x3 x4 x5 x6) = some (.nx (lxE L f (p + 1) x3 x4 x5 x6)) := by
  simp [b_words_of_2_0, b_words_of_2_0_0, lxE, sIf, fB, fOp, fIxV, pur, fVar, frz, vwE, hix, fC, gEq, shp1, eqD, sAug, gI, setE]
theorem cond_ok {w : List Nat} {b : Bool} (h : okW w = some b) (L : List Nat) (f : List (List Nat)) (p : Nat) (x3 x5 x6 : Option Ow) :
    (fAnd (fB (fOp gNi (fVar 4) (fC d_CLOSED))) (fAnd (tNot' (fB (fCall m_is_name (qCons (fVar 4) qNil)))) (tNot' (fB (fCall m_is_number (qCons (fVar 4) qNil)))))) (lxE L f p x3 (some (.sh (.str w))) x5 x6) = some (!b, lxE L f p x3 (some (.sh (.str w))) x5 x6) := by
  unfold okW at h
  generalize hD : d_CLOSED = D at h ⊢
  split at h
  · rename_i q
    simp only [Option.some.injEq] at h
    subst h
    simp [fAnd, fB, fOp, pur, fVar, frz, lxE, fC, gNi, q]
  · rename_i q
    split at h
    · rename_i q2
      simp only [Option.some.injEq] at h
      subst h
      simp [fAnd, fB, fOp, pur, fVar, frz, lxE, fC, gNi, q, tNot', fCall, qCons, qNil, q2]
    · rename_i q2
      split at h
      · rename_i q3
        simp only [Option.some.injEq] at h
        subst h
        simp [fAnd, fB, fOp, pur, fVar, frz, lxE, fC, gNi, q, tNot', fCall, qCons, qNil, q2, q3]
      · cases h
    · cases h
  · cases h
theorem body_word {L : List Nat} {f : List (List Nat)} {p q c : Nat} {w : List Nat} {b : Bool} {x3 x4 x5 x6 : Option Ow} (hix : gIx (.str L) (.int (p : Int)) = some (.sh (.str [c]))) (hc : c < 1000) (h32 : c ≠ 32) (hs : isSg c = true)
    (hscan : b_words_of_2_0e_0_1 (lxE L f p (some (.sh (.int (p : Int)))) x4 x5 x6) = some (.nx (lxE L f p (some (.sh (.int (q : Int)))) x4 x5 x6)))
    (hcut : cutD L (some (p : Int)) (some (q : Int)) = w) (hL : L.length < 10000) (hf : f.length < 20000) (hw : okW w = some b) :
    b_words_of_2_0 (lxE L f p x3 x4 x5 x6) = if b then some (.nx (lxE L (f ++ [w]) q (some (.sh (.int (q : Int)))) (some (.sh (.str w))) x5 x6)) else some (.rt .non (lxE L f p (some (.sh (.int (q : Int)))) (some (.sh (.str w))) x5 x6)) := by
  have hb : Nat.ble L.length 16777216 = true := Nat.ble_eq_true_of_le (by omega)
  have hbf : Nat.blt f.length 16777216 = true := Nat.ble_eq_true_of_le (by omega)
  have hs2 : z_SIGNS.contains c = true := hs
  have e1 : fB (fOp gEq (fIxV 0 (fVar 2)) (fC (.str [32]))) (lxE L f p x3 x4 x5 x6) = some (false, lxE L f p x3 x4 x5 x6) := by
    simp [lxE, fB, fOp, fIxV, pur, fVar, frz, vwE, hix, fC, gEq, shp1 hc, shp1 (show 32 < 1000 by decide), eqD, h32]
  have e2 : fB (fOp gIn (fIxV 0 (fVar 2)) (fC (.str z_SIGNS))) (lxE L f p x3 x4 x5 x6) = some (true, lxE L f p x3 x4 x5 x6) := by
    simp only [lxE, fB, fOp, fIxV, pur, fVar, frz, vwE, hix, fC, gIn, inB, hs2, List.getElem?_cons_zero, List.getElem?_cons_succ]
  have e3 : b_words_of_2_0e_0_0 (lxE L f p x3 x4 x5 x6) = some (.nx (lxE L f p (some (.sh (.int (p : Int)))) x4 x5 x6)) := by
    simp [b_words_of_2_0e_0_0, lxE, sSet, fVar, setE]
  have e4 : b_words_of_2_0e_0_2 (lxE L f p (some (.sh (.int (q : Int)))) x4 x5 x6) = some (.nx (lxE L f p (some (.sh (.int (q : Int)))) (some (.sh (.str w))) x5 x6)) := by
    simp [b_words_of_2_0e_0_2, lxE, sSet, fSl, pur, fVar, frz, oSome, gSl, hb, hcut, setE]
  have e5 := cond_ok hw L f p (some (.sh (.int (q : Int)))) x5 x6
  unfold b_words_of_2_0 sIf
  simp only [e1]
  unfold b_words_of_2_0e_0 sIf
  simp only [e2, Bool.false_eq_true, if_false, if_true]
  unfold sSeq
  simp only [e3, hscan, e4]
  unfold b_words_of_2_0e_0_3 sIf
  simp only [e5]
  cases b with
  | true => simp [sNx, b_words_of_2_0e_0_4, b_words_of_2_0e_0_5, lxE, sApp, pur, fVar, frz, hbf, sSet, setE]
  | false => simp [b_words_of_2_0e_0_3_0, lxE, sRet, pur, fC, frz]
theorem mks_sm : ∀ m ∈ mks, m.length ≤ 3 ∧ m.all (· < 1000) = true := by decide
theorem body_mk {pre r L : List Nat} {f : List (List Nat)} {c : Nat} {x3 x4 x5 : Option Ow} (hL : L = pre ++ r) (hix : gIx (.str L) (.int (pre.length : Int)) = some (.sh (.str [c]))) (hc : c < 1000) (h32 : c ≠ 32) (hs : isSg c = false)
    (hl : L.length < 10000) (hf : f.length < 20000) (hr : r.all (· < 1000) = true) :
    match mkAt r with
    | [] => ∃ e, b_words_of_2_0 (lxE L f pre.length x3 x4 x5 none) = some (.rt .non e)
    | m :: _ => ∃ x5', b_words_of_2_0 (lxE L f pre.length x3 x4 x5 none) = some (.nx (lxE L (f ++ [m]) (pre.length + m.length) x3 x4 x5' none)) := by
  have hb : Nat.ble L.length 16777216 = true := Nat.ble_eq_true_of_le (by omega)
  have hbf : Nat.blt f.length 16777216 = true := Nat.ble_eq_true_of_le (by omega)
  have hs2 : z_SIGNS.contains c = false := hs
  have e1 : fB (fOp gEq (fIxV 0 (fVar 2)) (fC (.str [32]))) (lxE L f pre.length x3 x4 x5 none) = some (false, lxE L f pre.length x3 x4 x5 none) := by
    simp [lxE, fB, fOp, fIxV, pur, fVar, frz, vwE, hix, fC, gEq, shp1 hc, shp1 (show 32 < 1000 by decide), eqD, h32]
  have e2 : fB (fOp gIn (fIxV 0 (fVar 2)) (fC (.str z_SIGNS))) (lxE L f pre.length x3 x4 x5 none) = some (false, lxE L f pre.length x3 x4 x5 none) := by
    simp only [lxE, fB, fOp, fIxV, pur, fVar, frz, vwE, hix, fC, gIn, inB, hs2, List.getElem?_cons_zero, List.getElem?_cons_succ]
  obtain ⟨y6, hmk⟩ := mk_loop L pre r hL hl f x3 x4 x5 mks none mks_sm hr
  have e3 : b_words_of_2_0e_0e_0 (lxE L f pre.length x3 x4 x5 none) = some (.nx (lxE L f pre.length x3 x4 (some (.lst ((mkAt r).map .str))) none)) := by
    have hz : Nat.ble (mks.map Dt.str).length 16777216 = true := by decide
    have hi : iT (fC d_MARKS) (lxE L f pre.length x3 x4 x5 none) = some (mks.map .str, lxE L f pre.length x3 x4 x5 none) := by
      rw [mks_d]
      rfl
    have hw : wipeE (lxE L f pre.length x3 x4 x5 none) [6] = lxE L f pre.length x3 x4 x5 none := rfl
    unfold b_words_of_2_0e_0e_0 sSet fLc
    simp only [hi, hz, if_true, hw, hmk]
    simp [rstE, lxE, setE, mkAt]
  unfold b_words_of_2_0 sIf
  simp only [e1]
  unfold b_words_of_2_0e_0 sIf
  simp only [e2, Bool.false_eq_true, if_false]
  unfold sSeq
  simp only [e3]
  cases hm : mkAt r with
  | nil =>
    refine ⟨lxE L f pre.length x3 x4 (some (.lst [])) none, ?_⟩
    simp [b_words_of_2_0e_0e_1, sIf, fB, fOp, lxE, fCBV, vwE, frz, pur, gLen, scl, fC, gEq, Dt.shp, Dt.sgn, Dt.dep, eqD, b_words_of_2_0e_0e_1_0, sRet]
  | cons m ms =>
    refine ⟨some (.lst ((m :: ms).map .str)), ?_⟩
    have hmm : m ∈ mks := by
      have : m ∈ mkAt r := by rw [hm]; simp
      exact (List.mem_filter.mp this).1
    have hbm : Nat.ble m.length 16777216 = true := Nat.ble_eq_true_of_le (by have := (mks_sm m hmm).1; omega)
    have hne : ((ms.length : Int) + 1 == 0) = false := by
      rw [beq_eq_false_iff_ne]
      omega
    simp [b_words_of_2_0e_0e_1, sIf, fB, fOp, lxE, fCBV, vwE, frz, pur, gLen, scl, fC, gEq, Dt.shp, Dt.sgn, Dt.dep, eqD, sNx, b_words_of_2_0e_0e_2, sApp, fIxV, gIx, atN, hbf, b_words_of_2_0e_0e_3, sAug, fCB, qCons, qNil, hbm, gI, setE, hne]
/-- what the run over a text ends in -/
def RunTo (res : Option Out) (L : List Nat) (f : List (List Nat)) : Option (List (List Nat)) → Prop
  | some ws => ∃ x3 x4 x5, res = some (.nx (lxE L (f ++ ws) L.length x3 x4 x5 none))
  | none => ∃ e, res = some (.rt .non e)
theorem lx_run {r : List Nat} {o : Option (List (List Nat))} (h : Lx r o) : ∀ (pre : List Nat) (f : List (List Nat)) (n : Nat) (x3 x4 x5 : Option Ow), r.all (· < 1000) = true → r.length < n → (pre ++ r).length < 10000 → f.length + r.length < 20000 →
    RunTo (whF (fB (fOp gLt (fVar 2) (fCBV gLen 0))) b_words_of_2_0 n (lxE (pre ++ r) f pre.length x3 x4 x5 none)) (pre ++ r) f o := by
  have cnd : ∀ (L : List Nat) (f : List (List Nat)) (p : Nat) (x3 x4 x5 : Option Ow), L.length < 10000 → fB (fOp gLt (fVar 2) (fCBV gLen 0)) (lxE L f p x3 x4 x5 none) = some (decide (p < L.length), lxE L f p x3 x4 x5 none) := fun L f p x3 x4 x5 hl => by
    have hb : Nat.ble L.length 16777216 = true := Nat.ble_eq_true_of_le (by omega)
    simp [lxE, fB, fOp, pur, fVar, frz, fCBV, vwE, gLen, scl, hb, gLt, gIB]
  induction h with
  | nil =>
    intro pre f n x3 x4 x5 hr hn hl hf
    cases n with
    | zero => omega
    | succ n =>
      refine ⟨x3, x4, x5, ?_⟩
      rw [whF, cnd _ _ _ _ _ _ hl]
      simp
  | sp hx ih =>
    rename_i r o
    intro pre f n x3 x4 x5 hr hn hl hf
    cases n with
    | zero => omega
    | succ n =>
      rw [whF, cnd _ _ _ _ _ _ hl, decide_eq_true (by simp)]
      simp only [if_true]
      rw [body_sp _ _ _ _ _ _ _ (ixL pre r 32 hl)]
      simp only [List.all_cons, Bool.and_eq_true] at hr
      have := ih (pre ++ [32]) f n x3 x4 x5 hr.2 (by simp at hn; omega) (by simpa using hl) (by simp at hf; omega)
      simpa using this
  | word hs h32 hw hh hok hx ih =>
    rename_i c w r o
    intro pre f n x3 x4 x5 hr hn hl hf
    cases n with
    | zero => omega
    | succ n =>
      have hr2 : (c :: w).all (· < 1000) = true ∧ r.all (· < 1000) = true := by
        rw [List.all_append, Bool.and_eq_true] at hr
        exact hr
      have hc : c < 1000 := by
        have := hr2.1
        simp at this
        exact this.1
      have hix : gIx (.str (pre ++ (c :: w ++ r))) (.int (pre.length : Int)) = some (.sh (.str [c])) := ixL pre (w ++ r) c hl
      have hsc := scan pre f pre.length x4 x5 none r hh (c :: w) pre 1000000 (by simp [hs]; simpa using hw) (by simp at hl ⊢; omega) hl
      have hcut := cut_at pre (c :: w) r (c :: w).length rfl
      have e : ((pre.length : Int) + ((c :: w).length : Int)) = (((pre ++ (c :: w)).length : Nat) : Int) := by simp
      rw [e] at hcut
      rw [whF, cnd _ _ _ _ _ _ hl, decide_eq_true (by simp)]
      simp only [if_true]
      rw [body_word hix hc h32 hs hsc hcut hl (by omega) hok]
      simp only [if_true]
      have := ih (pre ++ (c :: w)) (f ++ [c :: w]) n (some (.sh (.int ((pre ++ (c :: w)).length : Nat)))) (some (.sh (.str (c :: w)))) x5 hr2.2 (by simp at hn; omega) (by simpa using hl) (by simp at hf ⊢; omega)
      rw [List.append_assoc] at this
      cases o with
      | none => exact this
      | some ws =>
        obtain ⟨y3, y4, y5, q⟩ := this
        refine ⟨y3, y4, y5, ?_⟩
        rw [q]
        simp
  | bad hs h32 hw hh hok =>
    rename_i c w r
    intro pre f n x3 x4 x5 hr hn hl hf
    cases n with
    | zero => omega
    | succ n =>
      have hc : c < 1000 := by
        rw [List.all_append, Bool.and_eq_true] at hr
        have := hr.1
        simp at this
        exact this.1
      have hix : gIx (.str (pre ++ (c :: w ++ r))) (.int (pre.length : Int)) = some (.sh (.str [c])) := ixL pre (w ++ r) c hl
      have hsc := scan pre f pre.length x4 x5 none r hh (c :: w) pre 1000000 (by simp [hs]; simpa using hw) (by simp at hl ⊢; omega) hl
      have hcut := cut_at pre (c :: w) r (c :: w).length rfl
      have e : ((pre.length : Int) + ((c :: w).length : Int)) = (((pre ++ (c :: w)).length : Nat) : Int) := by simp
      rw [e] at hcut
      rw [whF, cnd _ _ _ _ _ _ hl, decide_eq_true (by simp)]
      simp only [if_true]
      rw [body_word hix hc h32 hs hsc hcut hl (by omega) hok]
      exact ⟨_, rfl⟩
  | mark hs h32 hm hx ih =>
    rename_i c m r o ms
    intro pre f n x3 x4 x5 hr hn hl hf
    cases n with
    | zero => omega
    | succ n =>
      have hr2 : (c :: m).all (· < 1000) = true ∧ r.all (· < 1000) = true := by
        rw [List.all_append, Bool.and_eq_true] at hr
        exact hr
      have hc : c < 1000 := by
        have := hr2.1
        simp at this
        exact this.1
      have hix := ixL pre (m ++ r) c hl
      have hb := body_mk (f := f) (x3 := x3) (x4 := x4) (x5 := x5) rfl hix hc h32 hs hl (by omega) hr
      have hm' : mkAt (c :: (m ++ r)) = (c :: m) :: ms := hm
      have hb2 : ∃ x5', b_words_of_2_0 (lxE (pre ++ c :: (m ++ r)) f pre.length x3 x4 x5 none) = some (.nx (lxE (pre ++ c :: (m ++ r)) (f ++ [c :: m]) (pre.length + (c :: m).length) x3 x4 x5' none)) := by
        have hb' := hb
        simp only [List.cons_append, hm'] at hb'
        exact hb'
      obtain ⟨y5, q⟩ := hb2
      rw [whF, cnd _ _ _ _ _ _ hl, decide_eq_true (by simp)]
      simp only [if_true, List.cons_append]
      rw [q]
      have := ih (pre ++ (c :: m)) (f ++ [c :: m]) n x3 x4 y5 hr2.2 (by simp at hn; omega) (by simpa using hl) (by simp at hf ⊢; omega)
      rw [List.append_assoc, List.length_append] at this
      cases o with
      | none => exact this
      | some ws =>
        obtain ⟨z3, z4, z5, q2⟩ := this
        refine ⟨z3, z4, z5, ?_⟩
        simp only [List.cons_append] at q2 ⊢
        rw [q2]
        simp
  | nomark hs h32 hm =>
    rename_i c r
    intro pre f n x3 x4 x5 hr hn hl hf
    cases n with
    | zero => omega
    | succ n =>
      have hc : c < 1000 := by
        simp at hr
        exact hr.1
      have hix := ixL pre r c hl
      have hb := body_mk (f := f) (x3 := x3) (x4 := x4) (x5 := x5) rfl hix hc h32 hs hl (by omega) hr
      rw [hm] at hb
      obtain ⟨e, q⟩ := hb
      rw [whF, cnd _ _ _ _ _ _ hl, decide_eq_true (by simp)]
      simp only [if_true]
      rw [q]
      exact ⟨_, rfl⟩
theorem words_of_ok {L : List Nat} {ws : List (List Nat)} (h : Lx L (some ws)) (hl : L.length < 10000) (hr : L.all (· < 1000) = true) : m_words_of [.str L] = some (.lst (ws.map .str)) := by
  obtain ⟨x3, x4, x5, q⟩ := lx_run h [] [] 1000000 none none none hr (by omega) (by simpa using hl) (by simp; omega)
  simp only [List.nil_append, List.length_nil] at q
  have q' : b_words_of_2 [some (.sh (.str L)), some (.lst []), some (.sh (.int 0)), none, none, none, none] = _ := q
  simp [m_words_of, defF, entE, runB, b_words_of, sSeq, b_words_of_0, sSet, fLst, qNil, setE, b_words_of_1, fC, q', lxE, b_words_of_3, sRet, pur, fVar, frz]
theorem words_of_no {L : List Nat} (h : Lx L none) (hl : L.length < 10000) (hr : L.all (· < 1000) = true) : m_words_of [.str L] = some .non := by
  obtain ⟨e, q⟩ := lx_run h [] [] 1000000 none none none hr (by omega) (by simpa using hl) (by simp; omega)
  simp only [List.nil_append, List.length_nil] at q
  have q' : b_words_of_2 [some (.sh (.str L)), some (.lst []), some (.sh (.int 0)), none, none, none, none] = _ := q
  simp [m_words_of, defF, entE, runB, b_words_of, sSeq, b_words_of_0, sSet, fLst, qNil, setE, b_words_of_1, fC, q']
end DK06
set_option Elab.async false
set_option linter.all false
set_option maxRecDepth 100000
namespace SL.K06
open PySem PySem.Spec PyProof.Rows L2 DL
theorem gs_free {l : List (Str × NameKind)} {env : Env} (h : (l.all fun y => match y.2 with | .free => false | _ => true) = true) : ∀ y ∈ l, y.2 = .free → ∃ c, env.cells.lookup y.1 = some c := fun y hy e => by
  have := List.all_eq_true.mp h y hy
  rw [e] at this
  cases this
theorem signT_z {X : Cx} {sc : Scope} {x g : Str} {z : List Nat} {p1 p2 p3 : Pos} (hm : ∃ t, X.mg g = some (.str ⟨z.toArray⟩ t)) (hb : X.base.Ns mainGlobals X.mg)
    (hk : sc.kind = .function) (hl : sc.names.lookup x = some .local) (hg : sc.names.lookup g = some .globalImplicit)
    (d1 : (x == ("__debug__" : Str)) = false := by decide) (d2 : (g == ("__debug__" : Str)) = false := by decide) :
    Gx.SignT X sc x (.Compare (.Name x p1) [.In] [.Name g p2] p3) (fun c => decide (c ∈ z)) := by
  have := Gx.signT_in (p1 := p1) (p2 := p2) (p3 := p3) hm hb hk hl hg d1 d2
  simpa using this
def topS (i : Nat) : Stmt := PySem.Challenge.pw_foundry_k06_trees_of_lines.main.body.getD i (.Pass ⟨0, 0, 0, 0⟩)
def kd_POWER : List (List Nat × Vl) := [([60, 45, 62], .int 1), ([45, 62], .int 2), ([111, 114], .int 3), ([97, 110, 100], .int 4), ([61], .int 6), ([35], .int 6), ([60], .int 6), ([60, 61], .int 6), ([62], .int 6), ([62, 61], .int 6), ([105, 110], .int 6), ([119, 105, 116, 104, 105, 110], .int 6), ([43], .int 7), ([45], .int 7), ([42], .int 8)]
def d_RIGHT : Vl := .tup [.str [60, 45, 62], .str [45, 62], .str [111, 114], .str [97, 110, 100]]
def d_EACH : Vl := .tup [.str [97, 108, 108], .str [115, 111, 109, 101], .str [101, 120, 97, 99, 116, 108, 121], .str [97, 116, 108, 101, 97, 115, 116], .str [97, 116, 109, 111, 115, 116], .str [99, 111, 117, 110, 116], .str [115, 117, 109], .str [108, 101, 97, 115, 116], .str [109, 111, 115, 116], .str [116, 104, 111, 115, 101]]
def kd_PLACES : List (List Nat × Vl) := [([101, 100, 103, 101], .int 3), ([112, 97, 116, 104], .int 3), ([100, 105, 115, 116, 97, 110, 99, 101], .int 3), ([100, 101, 103, 114, 101, 101], .int 2), ([110, 101, 97, 114], .int 2), ([106, 111, 105, 110, 101, 100], .int 1), ([116, 114, 101, 101, 108, 105, 107, 101], .int 1), ([114, 111, 117, 110, 100], .int 1), ([115, 105, 122, 101], .int 1), ([100, 105, 118], .int 2), ([109, 111, 100], .int 2)]
def d_NUMBERED : Vl := .tup [.str [101, 120, 97, 99, 116, 108, 121], .str [97, 116, 108, 101, 97, 115, 116], .str [97, 116, 109, 111, 115, 116]]
def clsS (i j : Nat) : Stmt := match topS i with
  | .ClassDef (body := b) .. => b.getD j (.Pass ⟨0, 0, 0, 0⟩)
  | s => s
def clss : List Str := ["Reading"]
/-! ### is_name (data layer) -/
abbrev s_is_name : Stmt := topS 12
def m_is_name : Fn := liftD DK06.m_is_name
/-! ### is_number (data layer) -/
abbrev s_is_number : Stmt := topS 13
def m_is_number : Fn := liftD DK06.m_is_number
/-! ### words_of (data layer) -/
abbrev s_words_of : Stmt := topS 14
def m_words_of : Fn := liftD DK06.m_words_of
/-! ### Reading___init__ -/
abbrev s_Reading___init__ : Stmt := clsS 20 0
abbrev N_Reading___init__ : List Str := ["self", "words", "at"]
theorem sc_Reading___init__ : FnScope N_Reading___init__ ["self", "words", "at"] (defScope s_Reading___init__) := ⟨rfl, rfl, rfl, by decide +kernel, rfl, by decide +kernel, by decide +kernel⟩
def b_Reading___init___0 : Fs := (SL.sFld clss "words" (fVar 0) (fVar 1))
def b_Reading___init___1 : Fs := (SL.sFld clss "at" (fVar 0) (fVar 2))
def b_Reading___init__ : Fs :=
  (sSeq b_Reading___init___0 b_Reading___init___1)
def m_Reading___init__ : Fn := defS 3 3 b_Reading___init__
set_option maxHeartbeats 4000000 in
theorem ok_Reading___init__ {P : Program} {w : World} {K : PySem.W.Frag} {mg : Str → Option Value} {base : Heap} {T : List Addr} {f : Addr} {fd : FuncData} (F : L2.Fun K "__init__" "Reading.__init__" s_Reading___init__ f fd)
    (fo_words : FldOk K clss "words")
    (fo_at : FldOk K clss "at") :
    FnOk P w K mg base (L2.CX P w) 1 f fd ["self", "words", "at"] (spS ⟨K, T⟩ m_Reading___init__) := by
  refine fn_sl F sc_Reading___init__ T b_Reading___init__ rfl rfl ?_
  intro A outer s H E hr
  have tk : Takes (cxOf (L2.CX P w) P w K mg base N_Reading___init__ "Reading.__init__" (defScope s_Reading___init__) f fd.code A outer s H E) (fun c d _ H' => E c d H') := takes_of rfl rfl rfl rfl
  refine ⟨_, (pss_cons (ps_fld (pv 0) (pv 1) rfl)
  (pss_one (ps_fld (pv 0) (pv 2) rfl))), ?_⟩
  unfold b_Reading___init__
  exact (es_seq (es_fld fo_words (ev_var 0) (ev_var 1))
  (es_fld fo_at (ev_var 0) (ev_var 2)))
/-! ### Reading_word -/
abbrev s_Reading_word : Stmt := clsS 20 1
abbrev N_Reading_word : List Str := ["self"]
theorem sc_Reading_word : FnScope N_Reading_word ["self"] (defScope s_Reading_word) := ⟨rfl, rfl, rfl, by decide +kernel, rfl, by decide +kernel, by decide +kernel⟩
def b_Reading_word_0 : Fs := (sRet (fIf (fB (fOp (lift2 gLt) (fUn (gFldC clss "at") (fVar 0)) (fCB SL.gLen (aCons (fUn (gFldC clss "words") (fVar 0)) aNil)))) (fOp SL.gIx (fUn (gFldC clss "words") (fVar 0)) (fUn (gFldC clss "at") (fVar 0))) (fC (.str []))))
def b_Reading_word : Fs :=
  b_Reading_word_0
def m_Reading_word : Fn := defS 1 1 b_Reading_word
set_option maxHeartbeats 4000000 in
theorem ok_Reading_word {P : Program} {w : World} {K : PySem.W.Frag} {mg : Str → Option Value} {base : Heap} {T : List Addr} {f : Addr} {fd : FuncData} (F : L2.Fun K "word" "Reading.word" s_Reading_word f fd)
    (fo_at : FldOk K clss "at")
    (fo_words : FldOk K clss "words")
    (f_len : mg "len" = none) :
    FnOk P w K mg base (L2.CX P w) 1 f fd ["self"] (spS ⟨K, T⟩ m_Reading_word) := by
  refine fn_sl F sc_Reading_word T b_Reading_word rfl rfl ?_
  intro A outer s H E hr
  have tk : Takes (cxOf (L2.CX P w) P w K mg base N_Reading_word "Reading.word" (defScope s_Reading_word) f fd.code A outer s H E) (fun c d _ H' => E c d H') := takes_of rfl rfl rfl rfl
  refine ⟨_, (pss_one (ps_ret (pe_ifExp (pt_cmpR op_lt (pe_fld (pv 0) rfl) (pe_callB (xlen K) (by rfl) f_len (by decide +kernel) (pa_cons (pe_fld (pv 0) rfl) pa_nil)) (nomark _)) (pe_ix (xix K) (pe_fld (pv 0) rfl) (pe_fld (pv 0) rfl) (fun _ _ => rfl)) pe_str))), ?_⟩
  unfold b_Reading_word
  exact (es_ret (ev_if (eb_test (ev_op (ev_fld fo_at (ev_var 0)) (ev_cb (ea_cons (ev_fld fo_words (ev_var 0)) ea_nil) SL.rc_len) r2_lt)) (ev_op (ev_fld fo_words (ev_var 0)) (ev_fld fo_at (ev_var 0)) r2_ix) (ev_c (rv_lit (by rfl)))))
/-! ### Reading_takes -/
abbrev s_Reading_takes : Stmt := clsS 20 2
abbrev N_Reading_takes : List Str := ["self", "word"]
theorem sc_Reading_takes : FnScope N_Reading_takes ["self", "word"] (defScope s_Reading_takes) := ⟨rfl, rfl, rfl, by decide +kernel, rfl, by decide +kernel, by decide +kernel⟩
def b_Reading_takes_0_0 : Fs := (sRet (fC (.bl false)))
def b_Reading_takes_0 : Fs := (sIf (fB (fOp (lift2 gNe) (fMeth "Reading" "word" m_Reading_word (fVar 0) aNil) (fVar 1))) b_Reading_takes_0_0 sNx)
def b_Reading_takes_1 : Fs := (SL.sFldAug clss "at" (lift2 (gI fun i j => i + j)) (fVar 0) (fC (.int 1)))
def b_Reading_takes_2 : Fs := (sRet (fC (.bl true)))
def b_Reading_takes : Fs :=
  (sSeq b_Reading_takes_0 (sSeq b_Reading_takes_1 b_Reading_takes_2))
def m_Reading_takes : Fn := defS 2 2 b_Reading_takes
set_option maxHeartbeats 4000000 in
theorem ok_Reading_takes {P : Program} {w : World} {K : PySem.W.Frag} {mg : Str → Option Value} {base : Heap} {T : List Addr} {f : Addr} {fd : FuncData} (F : L2.Fun K "takes" "Reading.takes" s_Reading_takes f fd)
    {a_Reading_word : Addr} {fd_Reading_word : FuncData} (G_Reading_word : FnOk P w K mg base (L2.CX P w) 1 a_Reading_word fd_Reading_word ["self"] (spS ⟨K, T⟩ m_Reading_word)) (B_Reading_word : Binds K fd_Reading_word ["self"] [])
    (cl_Reading : Cls K (He.ga K "Reading"))
    (mt_Reading_word : Meth K (He.ga K "Reading") "word" a_Reading_word)
    (fo_at : FldOk K clss "at") :
    FnOk P w K mg base (L2.CX P w) 2 f fd ["self", "word"] (spS ⟨K, T⟩ m_Reading_takes) := by
  refine fn_sl F sc_Reading_takes T b_Reading_takes rfl rfl ?_
  intro A outer s H E hr
  have tk : Takes (cxOf (L2.CX P w) P w K mg base N_Reading_takes "Reading.takes" (defScope s_Reading_takes) f fd.code A outer s H E) (fun c d _ H' => E c d H') := takes_of rfl rfl rfl rfl
  refine ⟨_, (pss_cons (ps_if (pt_cmpR (xop_ne K hr) (pe_methX0 (pv 0) cl_Reading mt_Reading_word G_Reading_word (hr.mono (by omega)) B_Reading_word .nil (fun σ => passAt tk σ)) (pv 1) (nomark _)) (pss_one (ps_ret pe_bl)) pss_nil)
  (pss_cons (ps_fldaug (pv 0) pe_int in_add)
  (pss_one (ps_ret pe_bl)))), ?_⟩
  unfold b_Reading_takes
  exact (es_seq (es_if (eb_test (ev_op (ev_meth (ev_var 0) ea_nil) (ev_var 1) r2_ne)) (es_ret (ev_c fun _ => .bl _)) es_nx)
  (es_seq (es_fldaug rfl fo_at (ev_var 0) (ev_c fun _ => .int _) r2_inAdd)
  (es_ret (ev_c fun _ => .bl _))))
structure Ms_Reading_tree where
  f_Reading_tree : Fn
  f_Reading_first : Fn
  f_Reading_plain : Fn
  f_Reading_behind : Fn
  f_Reading_parts : Fn
  f_Reading_either : Fn
  f_Reading_each : Fn
/-! ### Reading_tree -/
abbrev s_Reading_tree : Stmt := clsS 20 3
abbrev N_Reading_tree : List Str := ["self", "power", "left", "mark", "own", "right"]
theorem sc_Reading_tree : FnScope N_Reading_tree ["self", "power"] (defScope s_Reading_tree) := ⟨rfl, rfl, rfl, by decide +kernel, rfl, by decide +kernel, by decide +kernel⟩
def b_Reading_tree_0 (M : Ms_Reading_tree) : Fs := (sAsg (fMeth "Reading" "first" M.f_Reading_first (fVar 0) aNil) (gN 2))
def b_Reading_tree_1_0 (M : Ms_Reading_tree) : Fs := (sAsg (fMeth "Reading" "word" m_Reading_word (fVar 0) aNil) (gN 3))
def b_Reading_tree_1_1 (M : Ms_Reading_tree) : Fs := (sAsg (fOp (gKIx "POWER" kd_POWER) (fC (.glo "POWER")) (fVar 3)) (gN 4))
def b_Reading_tree_1_2 (M : Ms_Reading_tree) : Fs := (SL.sFldAug clss "at" (lift2 (gI fun i j => i + j)) (fVar 0) (fC (.int 1)))
def b_Reading_tree_1_3 (M : Ms_Reading_tree) : Fs := (sAsg (fMeth "Reading" "tree" M.f_Reading_tree (fVar 0) (aCons (fIf (fB (fOp (lift2 gIn) (fVar 3) (fC d_RIGHT))) (fVar 4) (fOp gAddS (fVar 4) (fC (.int 1)))) aNil)) (gN 5))
def b_Reading_tree_1_4 (M : Ms_Reading_tree) : Fs := (sAsg (fIf (fB (fOp SL.gIs (fVar 5) (fC .non))) (fC .non) (fTup (aCons (fC (.str [98, 105, 110])) (aCons (fVar 3) (aCons (fVar 2) (aCons (fVar 5) aNil)))))) (gN 2))
def b_Reading_tree_1_5_0 (M : Ms_Reading_tree) : Fs := (sRet (fC .non))
def b_Reading_tree_1_5 (M : Ms_Reading_tree) : Fs := (sIf (fAnd (fB (fOp (lift2 gEq) (fVar 4) (fC (.int 6)))) (fB (fOp (lift2 gEq) (fKGet2 kd_POWER (fMeth "Reading" "word" m_Reading_word (fVar 0) aNil) (fC (.int 0))) (fC (.int 6))))) (b_Reading_tree_1_5_0 M) sNx)
def b_Reading_tree_1 (M : Ms_Reading_tree) : Fs := (whF (fAnd (fB (fOp SL.gIsN (fVar 2) (fC .non))) (fB (fOp (lift2 gGe) (fKGet2 kd_POWER (fMeth "Reading" "word" m_Reading_word (fVar 0) aNil) (fC (.int 0))) (fCB (liftC gMx2) (aCons (fVar 1) (aCons (fC (.int 1)) aNil)))))) (sSeq (b_Reading_tree_1_0 M) (sSeq (b_Reading_tree_1_1 M) (sSeq (b_Reading_tree_1_2 M) (sSeq (b_Reading_tree_1_3 M) (sSeq (b_Reading_tree_1_4 M) (b_Reading_tree_1_5 M)))))) 1000000)
def b_Reading_tree_2 (M : Ms_Reading_tree) : Fs := (sRet (fVar 2))
def b_Reading_tree (M : Ms_Reading_tree) : Fs :=
  (sSeq (b_Reading_tree_0 M) (sSeq (b_Reading_tree_1 M) (b_Reading_tree_2 M)))
/-! ### Reading_first -/
abbrev s_Reading_first : Stmt := clsS 20 4
abbrev N_Reading_first : List Str := ["self", "word", "parts", "inner"]
theorem sc_Reading_first : FnScope N_Reading_first ["self"] (defScope s_Reading_first) := ⟨rfl, rfl, rfl, by decide +kernel, rfl, by decide +kernel, by decide +kernel⟩
def b_Reading_first_0 (M : Ms_Reading_tree) : Fs := (sAsg (fMeth "Reading" "word" m_Reading_word (fVar 0) aNil) (gN 1))
def b_Reading_first_1_0 (M : Ms_Reading_tree) : Fs := (SL.sFldAug clss "at" (lift2 (gI fun i j => i + j)) (fVar 0) (fC (.int 1)))
def b_Reading_first_1_1 (M : Ms_Reading_tree) : Fs := (sRet (fMeth "Reading" "behind" M.f_Reading_behind (fVar 0) (aCons (fC (.str [110, 111, 116])) (aCons (fC (.int 5)) aNil))))
def b_Reading_first_1 (M : Ms_Reading_tree) : Fs := (sIf (fB (fOp (lift2 gEq) (fVar 1) (fC (.str [110, 111, 116])))) (sSeq (b_Reading_first_1_0 M) (b_Reading_first_1_1 M)) sNx)
def b_Reading_first_2_0 (M : Ms_Reading_tree) : Fs := (SL.sFldAug clss "at" (lift2 (gI fun i j => i + j)) (fVar 0) (fC (.int 1)))
def b_Reading_first_2_1 (M : Ms_Reading_tree) : Fs := (sRet (fMeth "Reading" "behind" M.f_Reading_behind (fVar 0) (aCons (fC (.str [109, 105, 110, 117, 115])) (aCons (fC (.int 9)) aNil))))
def b_Reading_first_2 (M : Ms_Reading_tree) : Fs := (sIf (fB (fOp (lift2 gEq) (fVar 1) (fC (.str [45])))) (sSeq (b_Reading_first_2_0 M) (b_Reading_first_2_1 M)) sNx)
def b_Reading_first_3_0 (M : Ms_Reading_tree) : Fs := (sRet (fMeth "Reading" "either" M.f_Reading_either (fVar 0) aNil))
def b_Reading_first_3 (M : Ms_Reading_tree) : Fs := (sIf (fB (fOp (lift2 gEq) (fVar 1) (fC (.str [105, 102])))) (b_Reading_first_3_0 M) sNx)
def b_Reading_first_4_0 (M : Ms_Reading_tree) : Fs := (sRet (fMeth "Reading" "each" M.f_Reading_each (fVar 0) (aCons (fVar 1) aNil)))
def b_Reading_first_4 (M : Ms_Reading_tree) : Fs := (sIf (fB (fOp (lift2 gIn) (fVar 1) (fC d_EACH))) (b_Reading_first_4_0 M) sNx)
def b_Reading_first_5_0 (M : Ms_Reading_tree) : Fs := (SL.sFldAug clss "at" (lift2 (gI fun i j => i + j)) (fVar 0) (fC (.int 1)))
def b_Reading_first_5_1 (M : Ms_Reading_tree) : Fs := (sAsg (fMeth "Reading" "parts" M.f_Reading_parts (fVar 0) (aCons (fC (.str [40])) (aCons (fC (.str [41])) aNil))) (gN 2))
def b_Reading_first_5_2 (M : Ms_Reading_tree) : Fs := (sRet (fIf (fOr (fB (fOp SL.gIs (fVar 2) (fC .non))) (fB (fOp (lift2 gNe) (fCB SL.gLen (aCons (fVar 2) aNil)) (fOp (gKIx "PLACES" kd_PLACES) (fC (.glo "PLACES")) (fVar 1))))) (fC .non) (fTup (aCons (fC (.str [119, 97, 121])) (aCons (fVar 1) (aCons (fVar 2) aNil))))))
def b_Reading_first_5 (M : Ms_Reading_tree) : Fs := (sIf (fB (fOp (gKIn "PLACES" kd_PLACES) (fVar 1) (fC (.glo "PLACES")))) (sSeq (b_Reading_first_5_0 M) (sSeq (b_Reading_first_5_1 M) (b_Reading_first_5_2 M))) sNx)
def b_Reading_first_6_0 (M : Ms_Reading_tree) : Fs := (sAsg (fMeth "Reading" "parts" M.f_Reading_parts (fVar 0) (aCons (fC (.str [123])) (aCons (fC (.str [125])) aNil))) (gN 2))
def b_Reading_first_6_1 (M : Ms_Reading_tree) : Fs := (sRet (fIf (fB (fOp SL.gIs (fVar 2) (fC .non))) (fC .non) (fTup (aCons (fC (.str [115, 101, 116])) (aCons (fVar 2) aNil)))))
def b_Reading_first_6 (M : Ms_Reading_tree) : Fs := (sIf (fB (fOp (lift2 gEq) (fVar 1) (fC (.str [123])))) (sSeq (b_Reading_first_6_0 M) (b_Reading_first_6_1 M)) sNx)
def b_Reading_first_7_0 (M : Ms_Reading_tree) : Fs := (sAsg (fMeth "Reading" "tree" M.f_Reading_tree (fVar 0) (aCons (fC (.int 0)) aNil)) (gN 3))
def b_Reading_first_7_1 (M : Ms_Reading_tree) : Fs := (sRet (fIf (fAnd (fB (fOp SL.gIsN (fVar 3) (fC .non))) (fB (fMeth "Reading" "takes" m_Reading_takes (fVar 0) (aCons (fC (.str [41])) aNil)))) (fVar 3) (fC .non)))
def b_Reading_first_7 (M : Ms_Reading_tree) : Fs := (sIf (fB (fMeth "Reading" "takes" m_Reading_takes (fVar 0) (aCons (fC (.str [40])) aNil))) (sSeq (b_Reading_first_7_0 M) (b_Reading_first_7_1 M)) sNx)
def b_Reading_first_8 (M : Ms_Reading_tree) : Fs := (sRet (fMeth "Reading" "plain" M.f_Reading_plain (fVar 0) (aCons (fVar 1) aNil)))
def b_Reading_first (M : Ms_Reading_tree) : Fs :=
  (sSeq (b_Reading_first_0 M) (sSeq (b_Reading_first_1 M) (sSeq (b_Reading_first_2 M) (sSeq (b_Reading_first_3 M) (sSeq (b_Reading_first_4 M) (sSeq (b_Reading_first_5 M) (sSeq (b_Reading_first_6 M) (sSeq (b_Reading_first_7 M) (b_Reading_first_8 M)))))))))
/-! ### Reading_plain -/
abbrev s_Reading_plain : Stmt := clsS 20 5
abbrev N_Reading_plain : List Str := ["self", "word", "parts"]
theorem sc_Reading_plain : FnScope N_Reading_plain ["self", "word"] (defScope s_Reading_plain) := ⟨rfl, rfl, rfl, by decide +kernel, rfl, by decide +kernel, by decide +kernel⟩
def b_Reading_plain_0 (M : Ms_Reading_tree) : Fs := (SL.sFldAug clss "at" (lift2 (gI fun i j => i + j)) (fVar 0) (fC (.int 1)))
def b_Reading_plain_1_0 (M : Ms_Reading_tree) : Fs := (sRet (fTup (aCons (fVar 1) aNil)))
def b_Reading_plain_1 (M : Ms_Reading_tree) : Fs := (sIf (fB (fOp (lift2 gIn) (fVar 1) (fTup (aCons (fC (.str [121, 101, 115])) (aCons (fC (.str [110, 111])) aNil))))) (b_Reading_plain_1_0 M) sNx)
def b_Reading_plain_2_0 (M : Ms_Reading_tree) : Fs := (sRet (fIf (fB (fOp (lift2 gLt) (fCB SL.gLen (aCons (fVar 1) aNil)) (fC (.int 4)))) (fTup (aCons (fC (.str [105, 110, 116])) (aCons (fCB gInt (aCons (fVar 1) aNil)) aNil))) (fC .non)))
def b_Reading_plain_2 (M : Ms_Reading_tree) : Fs := (sIf (fB (fCall m_is_number (aCons (fVar 1) aNil))) (b_Reading_plain_2_0 M) sNx)
def b_Reading_plain_3_0 (M : Ms_Reading_tree) : Fs := (sRet (fC .non))
def b_Reading_plain_3 (M : Ms_Reading_tree) : Fs := (sIf (tNot' (fB (fCall m_is_name (aCons (fVar 1) aNil)))) (b_Reading_plain_3_0 M) sNx)
def b_Reading_plain_4_0 (M : Ms_Reading_tree) : Fs := (sRet (fTup (aCons (fC (.str [110, 97, 109, 101])) (aCons (fVar 1) aNil))))
def b_Reading_plain_4 (M : Ms_Reading_tree) : Fs := (sIf (fB (fOp (lift2 gNe) (fMeth "Reading" "word" m_Reading_word (fVar 0) aNil) (fC (.str [40])))) (b_Reading_plain_4_0 M) sNx)
def b_Reading_plain_5 (M : Ms_Reading_tree) : Fs := (sAsg (fMeth "Reading" "parts" M.f_Reading_parts (fVar 0) (aCons (fC (.str [40])) (aCons (fC (.str [41])) aNil))) (gN 2))
def b_Reading_plain_6 (M : Ms_Reading_tree) : Fs := (sRet (fIf (fB (fOp SL.gIs (fVar 2) (fC .non))) (fC .non) (fTup (aCons (fC (.str [99, 97, 108, 108])) (aCons (fVar 1) (aCons (fVar 2) aNil))))))
def b_Reading_plain (M : Ms_Reading_tree) : Fs :=
  (sSeq (b_Reading_plain_0 M) (sSeq (b_Reading_plain_1 M) (sSeq (b_Reading_plain_2 M) (sSeq (b_Reading_plain_3 M) (sSeq (b_Reading_plain_4 M) (sSeq (b_Reading_plain_5 M) (b_Reading_plain_6 M)))))))
/-! ### Reading_behind -/
abbrev s_Reading_behind : Stmt := clsS 20 6
abbrev N_Reading_behind : List Str := ["self", "word", "power", "inner"]
theorem sc_Reading_behind : FnScope N_Reading_behind ["self", "word", "power"] (defScope s_Reading_behind) := ⟨rfl, rfl, rfl, by decide +kernel, rfl, by decide +kernel, by decide +kernel⟩
def b_Reading_behind_0 (M : Ms_Reading_tree) : Fs := (sAsg (fMeth "Reading" "tree" M.f_Reading_tree (fVar 0) (aCons (fVar 2) aNil)) (gN 3))
def b_Reading_behind_1 (M : Ms_Reading_tree) : Fs := (sRet (fIf (fB (fOp SL.gIs (fVar 3) (fC .non))) (fC .non) (fTup (aCons (fVar 1) (aCons (fVar 3) aNil)))))
def b_Reading_behind (M : Ms_Reading_tree) : Fs :=
  (sSeq (b_Reading_behind_0 M) (b_Reading_behind_1 M))
/-! ### Reading_parts -/
abbrev s_Reading_parts : Stmt := clsS 20 7
abbrev N_Reading_parts : List Str := ["self", "left", "right", "found", "tree"]
theorem sc_Reading_parts : FnScope N_Reading_parts ["self", "left", "right"] (defScope s_Reading_parts) := ⟨rfl, rfl, rfl, by decide +kernel, rfl, by decide +kernel, by decide +kernel⟩
def b_Reading_parts_0_0 (M : Ms_Reading_tree) : Fs := (sRet (fC .non))
def b_Reading_parts_0 (M : Ms_Reading_tree) : Fs := (sIf (tNot' (fB (fMeth "Reading" "takes" m_Reading_takes (fVar 0) (aCons (fVar 1) aNil)))) (b_Reading_parts_0_0 M) sNx)
def b_Reading_parts_1 (M : Ms_Reading_tree) : Fs := (sAsg (fLst aNil) (gN 3))
def b_Reading_parts_2_0 (M : Ms_Reading_tree) : Fs := (sAsg (fMeth "Reading" "tree" M.f_Reading_tree (fVar 0) (aCons (fC (.int 0)) aNil)) (gN 4))
def b_Reading_parts_2_1_0 (M : Ms_Reading_tree) : Fs := (sRet (fC .non))
def b_Reading_parts_2_1 (M : Ms_Reading_tree) : Fs := (sIf (fB (fOp SL.gIs (fVar 4) (fC .non))) (b_Reading_parts_2_1_0 M) sNx)
def b_Reading_parts_2_2 (M : Ms_Reading_tree) : Fs := (sDrop (fBM isL mAppend (fVar 3) (aCons (fVar 4) aNil)))
def b_Reading_parts_2 (M : Ms_Reading_tree) : Fs := (whF (fOr (fB (fOp (lift2 gEq) (fCB SL.gLen (aCons (fVar 3) aNil)) (fC (.int 0)))) (fB (fMeth "Reading" "takes" m_Reading_takes (fVar 0) (aCons (fC (.str [44])) aNil)))) (sSeq (b_Reading_parts_2_0 M) (sSeq (b_Reading_parts_2_1 M) (b_Reading_parts_2_2 M))) 1000000)
def b_Reading_parts_3 (M : Ms_Reading_tree) : Fs := (sRet (fIf (fB (fMeth "Reading" "takes" m_Reading_takes (fVar 0) (aCons (fVar 2) aNil))) (fCB gTupOf (aCons (fVar 3) aNil)) (fC .non)))
def b_Reading_parts (M : Ms_Reading_tree) : Fs :=
  (sSeq (b_Reading_parts_0 M) (sSeq (b_Reading_parts_1 M) (sSeq (b_Reading_parts_2 M) (b_Reading_parts_3 M))))
/-! ### Reading_either -/
abbrev s_Reading_either : Stmt := clsS 20 8
abbrev N_Reading_either : List Str := ["self", "found", "word", "tree"]
theorem sc_Reading_either : FnScope N_Reading_either ["self"] (defScope s_Reading_either) := ⟨rfl, rfl, rfl, by decide +kernel, rfl, by decide +kernel, by decide +kernel⟩
def b_Reading_either_0 (M : Ms_Reading_tree) : Fs := (SL.sFldAug clss "at" (lift2 (gI fun i j => i + j)) (fVar 0) (fC (.int 1)))
def b_Reading_either_1 (M : Ms_Reading_tree) : Fs := (sAsg (fLst (aCons (fC (.str [105, 102])) aNil)) (gN 1))
def b_Reading_either_2_0 (M : Ms_Reading_tree) : Fs := (sAsg (fMeth "Reading" "tree" M.f_Reading_tree (fVar 0) (aCons (fC (.int 0)) aNil)) (gN 3))
def b_Reading_either_2_1_0 (M : Ms_Reading_tree) : Fs := (sRet (fC .non))
def b_Reading_either_2_1 (M : Ms_Reading_tree) : Fs := (sIf (fOr (fB (fOp SL.gIs (fVar 3) (fC .non))) (fAnd (fB (fOp (lift2 gNe) (fVar 2) (fC (.str [])))) (tNot' (fB (fMeth "Reading" "takes" m_Reading_takes (fVar 0) (aCons (fVar 2) aNil)))))) (b_Reading_either_2_1_0 M) sNx)
def b_Reading_either_2_2 (M : Ms_Reading_tree) : Fs := (sDrop (fBM isL mAppend (fVar 1) (aCons (fVar 3) aNil)))
def b_Reading_either_2 (M : Ms_Reading_tree) : Fs := (sFor (iT (fTup (aCons (fC (.str [116, 104, 101, 110])) (aCons (fC (.str [101, 108, 115, 101])) (aCons (fC (.str [])) aNil))))) (gN 2) (sSeq (b_Reading_either_2_0 M) (sSeq (b_Reading_either_2_1 M) (b_Reading_either_2_2 M))))
def b_Reading_either_3 (M : Ms_Reading_tree) : Fs := (sRet (fCB gTupOf (aCons (fVar 1) aNil)))
def b_Reading_either (M : Ms_Reading_tree) : Fs :=
  (sSeq (b_Reading_either_0 M) (sSeq (b_Reading_either_1 M) (sSeq (b_Reading_either_2 M) (b_Reading_either_3 M))))
/-! ### Reading_each -/
abbrev s_Reading_each : Stmt := clsS 20 9
abbrev N_Reading_each : List Str := ["self", "word", "number", "name", "over", "body"]
theorem sc_Reading_each : FnScope N_Reading_each ["self", "word"] (defScope s_Reading_each) := ⟨rfl, rfl, rfl, by decide +kernel, rfl, by decide +kernel, by decide +kernel⟩
def b_Reading_each_0 (M : Ms_Reading_tree) : Fs := (SL.sFldAug clss "at" (lift2 (gI fun i j => i + j)) (fVar 0) (fC (.int 1)))
def b_Reading_each_1 (M : Ms_Reading_tree) : Fs := (sAsg (fC .non) (gN 2))
def b_Reading_each_2_0 (M : Ms_Reading_tree) : Fs := (sAsg (fMeth "Reading" "word" m_Reading_word (fVar 0) aNil) (gN 2))
def b_Reading_each_2_1 (M : Ms_Reading_tree) : Fs := (SL.sFldAug clss "at" (lift2 (gI fun i j => i + j)) (fVar 0) (fC (.int 1)))
def b_Reading_each_2_2_0 (M : Ms_Reading_tree) : Fs := (sRet (fC .non))
def b_Reading_each_2_2 (M : Ms_Reading_tree) : Fs := (sIf (fOr (tNot' (fB (fCall m_is_number (aCons (fVar 2) aNil)))) (fOr (fB (fOp (lift2 gGt) (fCB SL.gLen (aCons (fVar 2) aNil)) (fC (.int 3)))) (fB (fOp (lift2 gGt) (fCB gInt (aCons (fVar 2) aNil)) (fIf (fB (fOp (lift2 gEq) (fVar 1) (fC (.str [97, 116, 109, 111, 115, 116])))) (fC (.int 99)) (fC (.int 100))))))) (b_Reading_each_2_2_0 M) sNx)
def b_Reading_each_2_3 (M : Ms_Reading_tree) : Fs := (sAsg (fCB gInt (aCons (fVar 2) aNil)) (gN 2))
def b_Reading_each_2 (M : Ms_Reading_tree) : Fs := (sIf (fB (fOp (lift2 gIn) (fVar 1) (fC d_NUMBERED))) (sSeq (b_Reading_each_2_0 M) (sSeq (b_Reading_each_2_1 M) (sSeq (b_Reading_each_2_2 M) (b_Reading_each_2_3 M)))) sNx)
def b_Reading_each_3 (M : Ms_Reading_tree) : Fs := (sAsg (fMeth "Reading" "word" m_Reading_word (fVar 0) aNil) (gN 3))
def b_Reading_each_4 (M : Ms_Reading_tree) : Fs := (SL.sFldAug clss "at" (lift2 (gI fun i j => i + j)) (fVar 0) (fC (.int 1)))
def b_Reading_each_5_0 (M : Ms_Reading_tree) : Fs := (sRet (fC .non))
def b_Reading_each_5 (M : Ms_Reading_tree) : Fs := (sIf (fOr (tNot' (fB (fCall m_is_name (aCons (fVar 3) aNil)))) (tNot' (fB (fMeth "Reading" "takes" m_Reading_takes (fVar 0) (aCons (fC (.str [105, 110])) aNil))))) (b_Reading_each_5_0 M) sNx)
def b_Reading_each_6 (M : Ms_Reading_tree) : Fs := (sAsg (fMeth "Reading" "tree" M.f_Reading_tree (fVar 0) (aCons (fC (.int 7)) aNil)) (gN 4))
def b_Reading_each_7_0 (M : Ms_Reading_tree) : Fs := (sRet (fC .non))
def b_Reading_each_7 (M : Ms_Reading_tree) : Fs := (sIf (fOr (fB (fOp SL.gIs (fVar 4) (fC .non))) (tNot' (fB (fMeth "Reading" "takes" m_Reading_takes (fVar 0) (aCons (fC (.str [58])) aNil))))) (b_Reading_each_7_0 M) sNx)
def b_Reading_each_8 (M : Ms_Reading_tree) : Fs := (sAsg (fMeth "Reading" "tree" M.f_Reading_tree (fVar 0) (aCons (fC (.int 0)) aNil)) (gN 5))
def b_Reading_each_9 (M : Ms_Reading_tree) : Fs := (sRet (fIf (fB (fOp SL.gIs (fVar 5) (fC .non))) (fC .non) (fTup (aCons (fC (.str [101, 97, 99, 104])) (aCons (fVar 1) (aCons (fVar 2) (aCons (fVar 3) (aCons (fVar 4) (aCons (fVar 5) aNil)))))))))
def b_Reading_each (M : Ms_Reading_tree) : Fs :=
  (sSeq (b_Reading_each_0 M) (sSeq (b_Reading_each_1 M) (sSeq (b_Reading_each_2 M) (sSeq (b_Reading_each_3 M) (sSeq (b_Reading_each_4 M) (sSeq (b_Reading_each_5 M) (sSeq (b_Reading_each_6 M) (sSeq (b_Reading_each_7 M) (sSeq (b_Reading_each_8 M) (b_Reading_each_9 M))))))))))
def ms_Reading_tree : Nat → Ms_Reading_tree
  | 0 => ⟨fun _ _ => .bad, fun _ _ => .bad, fun _ _ => .bad, fun _ _ => .bad, fun _ _ => .bad, fun _ _ => .bad, fun _ _ => .bad⟩
  | n + 1 => ⟨defS 2 6 (b_Reading_tree (ms_Reading_tree n)), defS 1 4 (b_Reading_first (ms_Reading_tree n)), defS 2 3 (b_Reading_plain (ms_Reading_tree n)), defS 3 4 (b_Reading_behind (ms_Reading_tree n)), defS 3 5 (b_Reading_parts (ms_Reading_tree n)), defS 1 4 (b_Reading_either (ms_Reading_tree n)), defS 2 6 (b_Reading_each (ms_Reading_tree n))⟩
def m_Reading_tree : Fn := (ms_Reading_tree 60).f_Reading_tree
def m_Reading_first : Fn := (ms_Reading_tree 60).f_Reading_first
def m_Reading_plain : Fn := (ms_Reading_tree 60).f_Reading_plain
def m_Reading_behind : Fn := (ms_Reading_tree 60).f_Reading_behind
def m_Reading_parts : Fn := (ms_Reading_tree 60).f_Reading_parts
def m_Reading_either : Fn := (ms_Reading_tree 60).f_Reading_either
def m_Reading_each : Fn := (ms_Reading_tree 60).f_Reading_each
set_option maxHeartbeats 4000000 in
theorem st_Reading_tree {P : Program} {w : World} {K : PySem.W.Frag} {mg : Str → Option Value} {base : Heap} {T : List Addr} {f : Addr} {fd : FuncData} (F : L2.Fun K "tree" "Reading.tree" s_Reading_tree f fd)
    {a_Reading_first : Addr} {fd_Reading_first : FuncData} (B_Reading_first : Binds K fd_Reading_first ["self"] [])
    {a_Reading_word : Addr} {fd_Reading_word : FuncData} (G_Reading_word : FnOk P w K mg base (L2.CX P w) 1 a_Reading_word fd_Reading_word ["self"] (spS ⟨K, T⟩ m_Reading_word)) (B_Reading_word : Binds K fd_Reading_word ["self"] [])
    {a_Reading_tree : Addr} {fd_Reading_tree : FuncData} (B_Reading_tree : Binds K fd_Reading_tree ["self", "power"] [])
    (cl_Reading : Cls K (He.ga K "Reading"))
    (mt_Reading_first : Meth K (He.ga K "Reading") "first" a_Reading_first)
    (mt_Reading_word : Meth K (He.ga K "Reading") "word" a_Reading_word)
    (mt_Reading_tree : Meth K (He.ga K "Reading") "tree" a_Reading_tree)
    (fo_at : FldOk K clss "at")
    (g_POWER : mg "POWER" = some (.ref (He.ga K "POWER"))) (D_POWER : KD K w "POWER" kd_POWER)
    {a_RIGHT : Addr} (g_RIGHT : mg "RIGHT" = some (.ref a_RIGHT)) (r_RIGHT : ∀ G : Gd, RV K G (.ref a_RIGHT) d_RIGHT)
    (f_max : mg "max" = none)
    {M : Ms_Reading_tree} {n : Nat} (G_Reading_first : FnOk P w K mg base (L2.CX P w) (3 + n) a_Reading_first fd_Reading_first ["self"] (spS ⟨K, T⟩ M.f_Reading_first)) (G_Reading_tree : FnOk P w K mg base (L2.CX P w) (3 + n) a_Reading_tree fd_Reading_tree ["self", "power"] (spS ⟨K, T⟩ M.f_Reading_tree)) :
    FnOk P w K mg base (L2.CX P w) (3 + n + 1) f fd ["self", "power"] (spS ⟨K, T⟩ (defS 2 6 (b_Reading_tree M))) := by
  refine fn_sl F sc_Reading_tree T (b_Reading_tree M) rfl rfl ?_
  intro A outer s H E hr
  have tk : Takes (cxOf (L2.CX P w) P w K mg base N_Reading_tree "Reading.tree" (defScope s_Reading_tree) f fd.code A outer s H E) (fun c d _ H' => E c d H') := takes_of rfl rfl rfl rfl
  refine ⟨_, (pss_cons (ps_set (i := 2) sc_Reading_tree.nd rfl (by first | exact .inl rfl | exact .inr rfl) (pe_methX0 (pv 0) cl_Reading mt_Reading_first G_Reading_first (hr.mono (by omega)) B_Reading_first .nil (fun σ => passAt tk σ)))
  (pss_cons (ps_while (passes_of rfl) (PW.pt (pw_and (pt_cmpR op_notN1 (pv 2) pe_non (nomark _)) (pw_and1 (pt_cmpR op_ge (pe_kget2 D_POWER.d (by rfl) g_POWER (pe_methX0 (pv 0) cl_Reading mt_Reading_word G_Reading_word (hr.mono (by omega)) B_Reading_word .nil (fun σ => passAt tk σ)) pe_int ⟨by rfl, by rfl, by rfl, by rfl⟩) (pe_callB (xmax2 K) (by rfl) f_max (by decide +kernel) (pa_cons (pv 1) (pa_cons pe_int pa_nil))) (nomark _))))) (pss_cons (ps_set (i := 3) sc_Reading_tree.nd rfl (by first | exact .inl rfl | exact .inr rfl) (pe_methX0 (pv 0) cl_Reading mt_Reading_word G_Reading_word (hr.mono (by omega)) B_Reading_word .nil (fun σ => passAt tk σ)))
  (pss_cons (ps_set (i := 4) sc_Reading_tree.nd rfl (by first | exact .inl rfl | exact .inr rfl) (pe_ix (xixd K w) (pe_glob (v := .ref (He.ga K "POWER")) (by rfl) g_POWER rfl) (pv 3) (fun _ _ => rfl)))
  (pss_cons (ps_fldaug (pv 0) pe_int in_add)
  (pss_cons (ps_set (i := 5) sc_Reading_tree.nd rfl (by first | exact .inl rfl | exact .inr rfl) (pe_methX (pv 0) cl_Reading mt_Reading_tree G_Reading_tree (hr.mono (by omega)) B_Reading_tree .nil (fun σ => passAt tk σ) (pa_cons (pe_ifExp (pt_cmpR (xop_in K hr) (pv 3) (pe_glob (v := .ref a_RIGHT) (by rfl) g_RIGHT rfl) (by rfl)) (pv 4) (pe_op (xop_add K) (pv 4) pe_int)) pa_nil)))
  (pss_cons (ps_set (i := 2) sc_Reading_tree.nd rfl (by first | exact .inl rfl | exact .inr rfl) (pe_ifExp (pt_cmpR op_isN1 (pv 5) pe_non (nomark _)) pe_non (pe_tup (pa_cons pe_str (pa_cons (pv 3) (pa_cons (pv 2) (pa_cons (pv 5) pa_nil)))))))
  (pss_one (ps_if (PW.pt (pw_and (pt_cmpR (xop_eq K hr) (pv 4) pe_int (nomark _)) (pw_and1 (pt_cmpR (xop_eq K hr) (pe_kget2 D_POWER.d (by rfl) g_POWER (pe_methX0 (pv 0) cl_Reading mt_Reading_word G_Reading_word (hr.mono (by omega)) B_Reading_word .nil (fun σ => passAt tk σ)) pe_int ⟨by rfl, by rfl, by rfl, by rfl⟩) pe_int (nomark _))))) (pss_one (ps_ret pe_non)) pss_nil))))))))
  (pss_one (ps_ret (pv 2))))), ?_⟩
  unfold b_Reading_tree
  exact (es_seq (es_asg (ev_meth (ev_var 0) ea_nil) eg_name)
  (es_seq (es_while (eb_and (eb_test (ev_op (ev_var 2) (ev_c fun _ => .non) r2_isn)) (eb_test (ev_op (ev_kget2 D_POWER (ev_meth (ev_var 0) ea_nil) (ev_c fun _ => .int _)) (ev_cb (ea_cons (ev_var 1) (ea_cons (ev_c fun _ => .int _) ea_nil)) SL.rc_mx2) r2_ge))) (es_seq (es_asg (ev_meth (ev_var 0) ea_nil) eg_name)
  (es_seq (es_asg (ev_op (ev_c fun _ => .glo) (ev_var 3) (r2_kix D_POWER)) eg_name)
  (es_seq (es_fldaug rfl fo_at (ev_var 0) (ev_c fun _ => .int _) r2_inAdd)
  (es_seq (es_asg (ev_meth (ev_var 0) (ea_cons (ev_if (eb_test (ev_op (ev_var 3) (ev_c r_RIGHT) r2_in)) (ev_var 4) (ev_op (ev_var 4) (ev_c fun _ => .int _) r2_addS)) ea_nil)) eg_name)
  (es_seq (es_asg (ev_if (eb_test (ev_op (ev_var 5) (ev_c fun _ => .non) r2_is)) (ev_c fun _ => .non) (ev_tup (ea_cons (ev_c (rv_lit (by rfl))) (ea_cons (ev_var 3) (ea_cons (ev_var 2) (ea_cons (ev_var 5) ea_nil)))))) eg_name)
  (es_if (eb_and (eb_test (ev_op (ev_var 4) (ev_c fun _ => .int _) r2_eq)) (eb_test (ev_op (ev_kget2 D_POWER (ev_meth (ev_var 0) ea_nil) (ev_c fun _ => .int _)) (ev_c fun _ => .int _) r2_eq))) (es_ret (ev_c fun _ => .non)) es_nx)))))))
  (es_ret (ev_var 2))))
set_option maxHeartbeats 4000000 in
theorem st_Reading_first {P : Program} {w : World} {K : PySem.W.Frag} {mg : Str → Option Value} {base : Heap} {T : List Addr} {f : Addr} {fd : FuncData} (F : L2.Fun K "first" "Reading.first" s_Reading_first f fd)
    {a_Reading_word : Addr} {fd_Reading_word : FuncData} (G_Reading_word : FnOk P w K mg base (L2.CX P w) 1 a_Reading_word fd_Reading_word ["self"] (spS ⟨K, T⟩ m_Reading_word)) (B_Reading_word : Binds K fd_Reading_word ["self"] [])
    {a_Reading_behind : Addr} {fd_Reading_behind : FuncData} (B_Reading_behind : Binds K fd_Reading_behind ["self", "word", "power"] [])
    {a_Reading_either : Addr} {fd_Reading_either : FuncData} (B_Reading_either : Binds K fd_Reading_either ["self"] [])
    {a_Reading_each : Addr} {fd_Reading_each : FuncData} (B_Reading_each : Binds K fd_Reading_each ["self", "word"] [])
    {a_Reading_parts : Addr} {fd_Reading_parts : FuncData} (B_Reading_parts : Binds K fd_Reading_parts ["self", "left", "right"] [])
    {a_Reading_takes : Addr} {fd_Reading_takes : FuncData} (G_Reading_takes : FnOk P w K mg base (L2.CX P w) 2 a_Reading_takes fd_Reading_takes ["self", "word"] (spS ⟨K, T⟩ m_Reading_takes)) (B_Reading_takes : Binds K fd_Reading_takes ["self", "word"] [])
    {a_Reading_tree : Addr} {fd_Reading_tree : FuncData} (B_Reading_tree : Binds K fd_Reading_tree ["self", "power"] [])
    {a_Reading_plain : Addr} {fd_Reading_plain : FuncData} (B_Reading_plain : Binds K fd_Reading_plain ["self", "word"] [])
    (cl_Reading : Cls K (He.ga K "Reading"))
    (mt_Reading_word : Meth K (He.ga K "Reading") "word" a_Reading_word)
    (mt_Reading_behind : Meth K (He.ga K "Reading") "behind" a_Reading_behind)
    (mt_Reading_either : Meth K (He.ga K "Reading") "either" a_Reading_either)
    (mt_Reading_each : Meth K (He.ga K "Reading") "each" a_Reading_each)
    (mt_Reading_parts : Meth K (He.ga K "Reading") "parts" a_Reading_parts)
    (mt_Reading_takes : Meth K (He.ga K "Reading") "takes" a_Reading_takes)
    (mt_Reading_tree : Meth K (He.ga K "Reading") "tree" a_Reading_tree)
    (mt_Reading_plain : Meth K (He.ga K "Reading") "plain" a_Reading_plain)
    (fo_at : FldOk K clss "at")
    {a_EACH : Addr} (g_EACH : mg "EACH" = some (.ref a_EACH)) (r_EACH : ∀ G : Gd, RV K G (.ref a_EACH) d_EACH)
    (g_PLACES : mg "PLACES" = some (.ref (He.ga K "PLACES"))) (D_PLACES : KD K w "PLACES" kd_PLACES)
    (f_len : mg "len" = none)
    {M : Ms_Reading_tree} {n : Nat} (G_Reading_behind : FnOk P w K mg base (L2.CX P w) (3 + n) a_Reading_behind fd_Reading_behind ["self", "word", "power"] (spS ⟨K, T⟩ M.f_Reading_behind)) (G_Reading_either : FnOk P w K mg base (L2.CX P w) (3 + n) a_Reading_either fd_Reading_either ["self"] (spS ⟨K, T⟩ M.f_Reading_either)) (G_Reading_each : FnOk P w K mg base (L2.CX P w) (3 + n) a_Reading_each fd_Reading_each ["self", "word"] (spS ⟨K, T⟩ M.f_Reading_each)) (G_Reading_parts : FnOk P w K mg base (L2.CX P w) (3 + n) a_Reading_parts fd_Reading_parts ["self", "left", "right"] (spS ⟨K, T⟩ M.f_Reading_parts)) (G_Reading_tree : FnOk P w K mg base (L2.CX P w) (3 + n) a_Reading_tree fd_Reading_tree ["self", "power"] (spS ⟨K, T⟩ M.f_Reading_tree)) (G_Reading_plain : FnOk P w K mg base (L2.CX P w) (3 + n) a_Reading_plain fd_Reading_plain ["self", "word"] (spS ⟨K, T⟩ M.f_Reading_plain)) :
    FnOk P w K mg base (L2.CX P w) (3 + n + 1) f fd ["self"] (spS ⟨K, T⟩ (defS 1 4 (b_Reading_first M))) := by
  refine fn_sl F sc_Reading_first T (b_Reading_first M) rfl rfl ?_
  intro A outer s H E hr
  have tk : Takes (cxOf (L2.CX P w) P w K mg base N_Reading_first "Reading.first" (defScope s_Reading_first) f fd.code A outer s H E) (fun c d _ H' => E c d H') := takes_of rfl rfl rfl rfl
  refine ⟨_, (pss_cons (ps_set (i := 1) sc_Reading_first.nd rfl (by first | exact .inl rfl | exact .inr rfl) (pe_methX0 (pv 0) cl_Reading mt_Reading_word G_Reading_word (hr.mono (by omega)) B_Reading_word .nil (fun σ => passAt tk σ)))
  (pss_cons (ps_if (pt_cmpR (xop_eq K hr) (pv 1) pe_str (nomark _)) (pss_cons (ps_fldaug (pv 0) pe_int in_add)
  (pss_one (ps_ret (pe_methX (pv 0) cl_Reading mt_Reading_behind G_Reading_behind (hr.mono (by omega)) B_Reading_behind .nil (fun σ => passAt tk σ) (pa_cons pe_str (pa_cons pe_int pa_nil)))))) pss_nil)
  (pss_cons (ps_if (pt_cmpR (xop_eq K hr) (pv 1) pe_str (nomark _)) (pss_cons (ps_fldaug (pv 0) pe_int in_add)
  (pss_one (ps_ret (pe_methX (pv 0) cl_Reading mt_Reading_behind G_Reading_behind (hr.mono (by omega)) B_Reading_behind .nil (fun σ => passAt tk σ) (pa_cons pe_str (pa_cons pe_int pa_nil)))))) pss_nil)
  (pss_cons (ps_if (pt_cmpR (xop_eq K hr) (pv 1) pe_str (nomark _)) (pss_one (ps_ret (pe_methX0 (pv 0) cl_Reading mt_Reading_either G_Reading_either (hr.mono (by omega)) B_Reading_either .nil (fun σ => passAt tk σ)))) pss_nil)
  (pss_cons (ps_if (pt_cmpR (xop_in K hr) (pv 1) (pe_glob (v := .ref a_EACH) (by rfl) g_EACH rfl) (by rfl)) (pss_one (ps_ret (pe_methX (pv 0) cl_Reading mt_Reading_each G_Reading_each (hr.mono (by omega)) B_Reading_each .nil (fun σ => passAt tk σ) (pa_cons (pv 1) pa_nil)))) pss_nil)
  (pss_cons (ps_if (pt_cmpR (op_kin K D_PLACES.d) (pv 1) (pe_glob (v := .ref (He.ga K "PLACES")) (by rfl) g_PLACES rfl) (by rfl)) (pss_cons (ps_fldaug (pv 0) pe_int in_add)
  (pss_cons (ps_set (i := 2) sc_Reading_first.nd rfl (by first | exact .inl rfl | exact .inr rfl) (pe_methX (pv 0) cl_Reading mt_Reading_parts G_Reading_parts (hr.mono (by omega)) B_Reading_parts .nil (fun σ => passAt tk σ) (pa_cons pe_str (pa_cons pe_str pa_nil))))
  (pss_one (ps_ret (pe_ifExp (PW.pt (pw_or (pt_cmpR op_isN1 (pv 2) pe_non (nomark _)) (pw_or1 (pt_cmpR (xop_ne K hr) (pe_callB (xlen K) (by rfl) f_len (by decide +kernel) (pa_cons (pv 2) pa_nil)) (pe_ix (xixd K w) (pe_glob (v := .ref (He.ga K "PLACES")) (by rfl) g_PLACES rfl) (pv 1) (fun _ _ => rfl)) (nomark _))))) pe_non (pe_tup (pa_cons pe_str (pa_cons (pv 1) (pa_cons (pv 2) pa_nil))))))))) pss_nil)
  (pss_cons (ps_if (pt_cmpR (xop_eq K hr) (pv 1) pe_str (nomark _)) (pss_cons (ps_set (i := 2) sc_Reading_first.nd rfl (by first | exact .inl rfl | exact .inr rfl) (pe_methX (pv 0) cl_Reading mt_Reading_parts G_Reading_parts (hr.mono (by omega)) B_Reading_parts .nil (fun σ => passAt tk σ) (pa_cons pe_str (pa_cons pe_str pa_nil))))
  (pss_one (ps_ret (pe_ifExp (pt_cmpR op_isN1 (pv 2) pe_non (nomark _)) pe_non (pe_tup (pa_cons pe_str (pa_cons (pv 2) pa_nil))))))) pss_nil)
  (pss_cons (ps_if (pt_val (pe_methX (pv 0) cl_Reading mt_Reading_takes G_Reading_takes (hr.mono (by omega)) B_Reading_takes .nil (fun σ => passAt tk σ) (pa_cons pe_str pa_nil))) (pss_cons (ps_set (i := 3) sc_Reading_first.nd rfl (by first | exact .inl rfl | exact .inr rfl) (pe_methX (pv 0) cl_Reading mt_Reading_tree G_Reading_tree (hr.mono (by omega)) B_Reading_tree .nil (fun σ => passAt tk σ) (pa_cons pe_int pa_nil)))
  (pss_one (ps_ret (pe_ifExp (PW.pt (pw_and (pt_cmpR op_notN1 (pv 3) pe_non (nomark _)) (pw_and1 (pt_val (pe_methX (pv 0) cl_Reading mt_Reading_takes G_Reading_takes (hr.mono (by omega)) B_Reading_takes .nil (fun σ => passAt tk σ) (pa_cons pe_str pa_nil)))))) (pv 3) pe_non)))) pss_nil)
  (pss_one (ps_ret (pe_methX (pv 0) cl_Reading mt_Reading_plain G_Reading_plain (hr.mono (by omega)) B_Reading_plain .nil (fun σ => passAt tk σ) (pa_cons (pv 1) pa_nil)))))))))))), ?_⟩
  unfold b_Reading_first
  exact (es_seq (es_asg (ev_meth (ev_var 0) ea_nil) eg_name)
  (es_seq (es_if (eb_test (ev_op (ev_var 1) (ev_c (rv_lit (by rfl))) r2_eq)) (es_seq (es_fldaug rfl fo_at (ev_var 0) (ev_c fun _ => .int _) r2_inAdd)
  (es_ret (ev_meth (ev_var 0) (ea_cons (ev_c (rv_lit (by rfl))) (ea_cons (ev_c fun _ => .int _) ea_nil))))) es_nx)
  (es_seq (es_if (eb_test (ev_op (ev_var 1) (ev_c (rv_lit (by rfl))) r2_eq)) (es_seq (es_fldaug rfl fo_at (ev_var 0) (ev_c fun _ => .int _) r2_inAdd)
  (es_ret (ev_meth (ev_var 0) (ea_cons (ev_c (rv_lit (by rfl))) (ea_cons (ev_c fun _ => .int _) ea_nil))))) es_nx)
  (es_seq (es_if (eb_test (ev_op (ev_var 1) (ev_c (rv_lit (by rfl))) r2_eq)) (es_ret (ev_meth (ev_var 0) ea_nil)) es_nx)
  (es_seq (es_if (eb_test (ev_op (ev_var 1) (ev_c r_EACH) r2_in)) (es_ret (ev_meth (ev_var 0) (ea_cons (ev_var 1) ea_nil))) es_nx)
  (es_seq (es_if (eb_test (ev_op (ev_var 1) (ev_c fun _ => .glo) (r2_kin D_PLACES))) (es_seq (es_fldaug rfl fo_at (ev_var 0) (ev_c fun _ => .int _) r2_inAdd)
  (es_seq (es_asg (ev_meth (ev_var 0) (ea_cons (ev_c (rv_lit (by rfl))) (ea_cons (ev_c (rv_lit (by rfl))) ea_nil))) eg_name)
  (es_ret (ev_if (eb_or (eb_test (ev_op (ev_var 2) (ev_c fun _ => .non) r2_is)) (eb_test (ev_op (ev_cb (ea_cons (ev_var 2) ea_nil) SL.rc_len) (ev_op (ev_c fun _ => .glo) (ev_var 1) (r2_kix D_PLACES)) r2_ne))) (ev_c fun _ => .non) (ev_tup (ea_cons (ev_c (rv_lit (by rfl))) (ea_cons (ev_var 1) (ea_cons (ev_var 2) ea_nil)))))))) es_nx)
  (es_seq (es_if (eb_test (ev_op (ev_var 1) (ev_c (rv_lit (by rfl))) r2_eq)) (es_seq (es_asg (ev_meth (ev_var 0) (ea_cons (ev_c (rv_lit (by rfl))) (ea_cons (ev_c (rv_lit (by rfl))) ea_nil))) eg_name)
  (es_ret (ev_if (eb_test (ev_op (ev_var 2) (ev_c fun _ => .non) r2_is)) (ev_c fun _ => .non) (ev_tup (ea_cons (ev_c (rv_lit (by rfl))) (ea_cons (ev_var 2) ea_nil)))))) es_nx)
  (es_seq (es_if (eb_val (ev_meth (ev_var 0) (ea_cons (ev_c (rv_lit (by rfl))) ea_nil))) (es_seq (es_asg (ev_meth (ev_var 0) (ea_cons (ev_c fun _ => .int _) ea_nil)) eg_name)
  (es_ret (ev_if (eb_and (eb_test (ev_op (ev_var 3) (ev_c fun _ => .non) r2_isn)) (eb_val (ev_meth (ev_var 0) (ea_cons (ev_c (rv_lit (by rfl))) ea_nil)))) (ev_var 3) (ev_c fun _ => .non)))) es_nx)
  (es_ret (ev_meth (ev_var 0) (ea_cons (ev_var 1) ea_nil)))))))))))
set_option maxHeartbeats 4000000 in
theorem st_Reading_plain {P : Program} {w : World} {K : PySem.W.Frag} {mg : Str → Option Value} {base : Heap} {T : List Addr} {f : Addr} {fd : FuncData} (F : L2.Fun K "plain" "Reading.plain" s_Reading_plain f fd)
    {a_is_number : Addr} {fd_is_number : FuncData} (G_is_number : FnOk P w K mg base (L2.CX P w) 2 a_is_number fd_is_number ["text"] (spS ⟨K, T⟩ m_is_number)) (B_is_number : Binds K fd_is_number ["text"] [])
    (g_is_number : mg "is_number" = some (.ref a_is_number)) (K_is_number : PySem.W.keepIn K (.ref a_is_number) = true)
    {a_is_name : Addr} {fd_is_name : FuncData} (G_is_name : FnOk P w K mg base (L2.CX P w) 2 a_is_name fd_is_name ["text"] (spS ⟨K, T⟩ m_is_name)) (B_is_name : Binds K fd_is_name ["text"] [])
    (g_is_name : mg "is_name" = some (.ref a_is_name)) (K_is_name : PySem.W.keepIn K (.ref a_is_name) = true)
    {a_Reading_word : Addr} {fd_Reading_word : FuncData} (G_Reading_word : FnOk P w K mg base (L2.CX P w) 1 a_Reading_word fd_Reading_word ["self"] (spS ⟨K, T⟩ m_Reading_word)) (B_Reading_word : Binds K fd_Reading_word ["self"] [])
    {a_Reading_parts : Addr} {fd_Reading_parts : FuncData} (B_Reading_parts : Binds K fd_Reading_parts ["self", "left", "right"] [])
    (cl_Reading : Cls K (He.ga K "Reading"))
    (mt_Reading_word : Meth K (He.ga K "Reading") "word" a_Reading_word)
    (mt_Reading_parts : Meth K (He.ga K "Reading") "parts" a_Reading_parts)
    (fo_at : FldOk K clss "at")
    (f_len : mg "len" = none)
    (f_int : mg "int" = none)
    {M : Ms_Reading_tree} {n : Nat} (G_Reading_parts : FnOk P w K mg base (L2.CX P w) (3 + n) a_Reading_parts fd_Reading_parts ["self", "left", "right"] (spS ⟨K, T⟩ M.f_Reading_parts)) :
    FnOk P w K mg base (L2.CX P w) (3 + n + 1) f fd ["self", "word"] (spS ⟨K, T⟩ (defS 2 3 (b_Reading_plain M))) := by
  refine fn_sl F sc_Reading_plain T (b_Reading_plain M) rfl rfl ?_
  intro A outer s H E hr
  have tk : Takes (cxOf (L2.CX P w) P w K mg base N_Reading_plain "Reading.plain" (defScope s_Reading_plain) f fd.code A outer s H E) (fun c d _ H' => E c d H') := takes_of rfl rfl rfl rfl
  refine ⟨_, (pss_cons (ps_fldaug (pv 0) pe_int in_add)
  (pss_cons (ps_if (pt_cmpR (xop_in K hr) (pv 1) (pe_tup (pa_cons pe_str (pa_cons pe_str pa_nil))) (by rfl)) (pss_one (ps_ret (pe_tup (pa_cons (pv 1) pa_nil)))) pss_nil)
  (pss_cons (ps_if (pt_val (pe_callS G_is_number (hr.mono (by omega)) (by rfl) g_is_number K_is_number B_is_number (fun σ => passAt tk σ) (pa_cons (pv 1) pa_nil))) (pss_one (ps_ret (pe_ifExp (pt_cmpR op_lt (pe_callB (xlen K) (by rfl) f_len (by decide +kernel) (pa_cons (pv 1) pa_nil)) pe_int (nomark _)) (pe_tup (pa_cons pe_str (pa_cons (pe_callTy xint (by rfl) f_int (by decide +kernel) (pa_cons (pv 1) pa_nil)) pa_nil))) pe_non))) pss_nil)
  (pss_cons (ps_if (pt_not (pt_val (pe_callS G_is_name (hr.mono (by omega)) (by rfl) g_is_name K_is_name B_is_name (fun σ => passAt tk σ) (pa_cons (pv 1) pa_nil)))) (pss_one (ps_ret pe_non)) pss_nil)
  (pss_cons (ps_if (pt_cmpR (xop_ne K hr) (pe_methX0 (pv 0) cl_Reading mt_Reading_word G_Reading_word (hr.mono (by omega)) B_Reading_word .nil (fun σ => passAt tk σ)) pe_str (nomark _)) (pss_one (ps_ret (pe_tup (pa_cons pe_str (pa_cons (pv 1) pa_nil))))) pss_nil)
  (pss_cons (ps_set (i := 2) sc_Reading_plain.nd rfl (by first | exact .inl rfl | exact .inr rfl) (pe_methX (pv 0) cl_Reading mt_Reading_parts G_Reading_parts (hr.mono (by omega)) B_Reading_parts .nil (fun σ => passAt tk σ) (pa_cons pe_str (pa_cons pe_str pa_nil))))
  (pss_one (ps_ret (pe_ifExp (pt_cmpR op_isN1 (pv 2) pe_non (nomark _)) pe_non (pe_tup (pa_cons pe_str (pa_cons (pv 1) (pa_cons (pv 2) pa_nil))))))))))))), ?_⟩
  unfold b_Reading_plain
  exact (es_seq (es_fldaug rfl fo_at (ev_var 0) (ev_c fun _ => .int _) r2_inAdd)
  (es_seq (es_if (eb_test (ev_op (ev_var 1) (ev_tup (ea_cons (ev_c (rv_lit (by rfl))) (ea_cons (ev_c (rv_lit (by rfl))) ea_nil))) r2_in)) (es_ret (ev_tup (ea_cons (ev_var 1) ea_nil))) es_nx)
  (es_seq (es_if (eb_val (ev_call (ea_cons (ev_var 1) ea_nil))) (es_ret (ev_if (eb_test (ev_op (ev_cb (ea_cons (ev_var 1) ea_nil) SL.rc_len) (ev_c fun _ => .int _) r2_lt)) (ev_tup (ea_cons (ev_c (rv_lit (by rfl))) (ea_cons (ev_cb (ea_cons (ev_var 1) ea_nil) rc_int) ea_nil))) (ev_c fun _ => .non))) es_nx)
  (es_seq (es_if (eb_not (eb_val (ev_call (ea_cons (ev_var 1) ea_nil)))) (es_ret (ev_c fun _ => .non)) es_nx)
  (es_seq (es_if (eb_test (ev_op (ev_meth (ev_var 0) ea_nil) (ev_c (rv_lit (by rfl))) r2_ne)) (es_ret (ev_tup (ea_cons (ev_c (rv_lit (by rfl))) (ea_cons (ev_var 1) ea_nil)))) es_nx)
  (es_seq (es_asg (ev_meth (ev_var 0) (ea_cons (ev_c (rv_lit (by rfl))) (ea_cons (ev_c (rv_lit (by rfl))) ea_nil))) eg_name)
  (es_ret (ev_if (eb_test (ev_op (ev_var 2) (ev_c fun _ => .non) r2_is)) (ev_c fun _ => .non) (ev_tup (ea_cons (ev_c (rv_lit (by rfl))) (ea_cons (ev_var 1) (ea_cons (ev_var 2) ea_nil))))))))))))
set_option maxHeartbeats 4000000 in
theorem st_Reading_behind {P : Program} {w : World} {K : PySem.W.Frag} {mg : Str → Option Value} {base : Heap} {T : List Addr} {f : Addr} {fd : FuncData} (F : L2.Fun K "behind" "Reading.behind" s_Reading_behind f fd)
    {a_Reading_tree : Addr} {fd_Reading_tree : FuncData} (B_Reading_tree : Binds K fd_Reading_tree ["self", "power"] [])
    (cl_Reading : Cls K (He.ga K "Reading"))
    (mt_Reading_tree : Meth K (He.ga K "Reading") "tree" a_Reading_tree)
    {M : Ms_Reading_tree} {n : Nat} (G_Reading_tree : FnOk P w K mg base (L2.CX P w) (3 + n) a_Reading_tree fd_Reading_tree ["self", "power"] (spS ⟨K, T⟩ M.f_Reading_tree)) :
    FnOk P w K mg base (L2.CX P w) (3 + n + 1) f fd ["self", "word", "power"] (spS ⟨K, T⟩ (defS 3 4 (b_Reading_behind M))) := by
  refine fn_sl F sc_Reading_behind T (b_Reading_behind M) rfl rfl ?_
  intro A outer s H E hr
  have tk : Takes (cxOf (L2.CX P w) P w K mg base N_Reading_behind "Reading.behind" (defScope s_Reading_behind) f fd.code A outer s H E) (fun c d _ H' => E c d H') := takes_of rfl rfl rfl rfl
  refine ⟨_, (pss_cons (ps_set (i := 3) sc_Reading_behind.nd rfl (by first | exact .inl rfl | exact .inr rfl) (pe_methX (pv 0) cl_Reading mt_Reading_tree G_Reading_tree (hr.mono (by omega)) B_Reading_tree .nil (fun σ => passAt tk σ) (pa_cons (pv 2) pa_nil)))
  (pss_one (ps_ret (pe_ifExp (pt_cmpR op_isN1 (pv 3) pe_non (nomark _)) pe_non (pe_tup (pa_cons (pv 1) (pa_cons (pv 3) pa_nil))))))), ?_⟩
  unfold b_Reading_behind
  exact (es_seq (es_asg (ev_meth (ev_var 0) (ea_cons (ev_var 2) ea_nil)) eg_name)
  (es_ret (ev_if (eb_test (ev_op (ev_var 3) (ev_c fun _ => .non) r2_is)) (ev_c fun _ => .non) (ev_tup (ea_cons (ev_var 1) (ea_cons (ev_var 3) ea_nil))))))
set_option maxHeartbeats 4000000 in
theorem st_Reading_parts {P : Program} {w : World} {K : PySem.W.Frag} {mg : Str → Option Value} {base : Heap} {T : List Addr} {f : Addr} {fd : FuncData} (F : L2.Fun K "parts" "Reading.parts" s_Reading_parts f fd)
    {a_Reading_takes : Addr} {fd_Reading_takes : FuncData} (G_Reading_takes : FnOk P w K mg base (L2.CX P w) 2 a_Reading_takes fd_Reading_takes ["self", "word"] (spS ⟨K, T⟩ m_Reading_takes)) (B_Reading_takes : Binds K fd_Reading_takes ["self", "word"] [])
    {a_Reading_tree : Addr} {fd_Reading_tree : FuncData} (B_Reading_tree : Binds K fd_Reading_tree ["self", "power"] [])
    (cl_Reading : Cls K (He.ga K "Reading"))
    (mt_Reading_takes : Meth K (He.ga K "Reading") "takes" a_Reading_takes)
    (mt_Reading_tree : Meth K (He.ga K "Reading") "tree" a_Reading_tree)
    (f_len : mg "len" = none)
    (f_tuple : mg "tuple" = none)
    {M : Ms_Reading_tree} {n : Nat} (G_Reading_tree : FnOk P w K mg base (L2.CX P w) (3 + n) a_Reading_tree fd_Reading_tree ["self", "power"] (spS ⟨K, T⟩ M.f_Reading_tree)) :
    FnOk P w K mg base (L2.CX P w) (3 + n + 1) f fd ["self", "left", "right"] (spS ⟨K, T⟩ (defS 3 5 (b_Reading_parts M))) := by
  refine fn_sl F sc_Reading_parts T (b_Reading_parts M) rfl rfl ?_
  intro A outer s H E hr
  have tk : Takes (cxOf (L2.CX P w) P w K mg base N_Reading_parts "Reading.parts" (defScope s_Reading_parts) f fd.code A outer s H E) (fun c d _ H' => E c d H') := takes_of rfl rfl rfl rfl
  refine ⟨_, (pss_cons (ps_if (pt_not (pt_val (pe_methX (pv 0) cl_Reading mt_Reading_takes G_Reading_takes (hr.mono (by omega)) B_Reading_takes .nil (fun σ => passAt tk σ) (pa_cons (pv 1) pa_nil)))) (pss_one (ps_ret pe_non)) pss_nil)
  (pss_cons (ps_set (i := 3) sc_Reading_parts.nd rfl (by first | exact .inl rfl | exact .inr rfl) (pe_lst pa_nil))
  (pss_cons (ps_while (passes_of rfl) (PW.pt (pw_or (pt_cmpR (xop_eq K hr) (pe_callB (xlen K) (by rfl) f_len (by decide +kernel) (pa_cons (pv 3) pa_nil)) pe_int (nomark _)) (pw_or1 (pt_val (pe_methX (pv 0) cl_Reading mt_Reading_takes G_Reading_takes (hr.mono (by omega)) B_Reading_takes .nil (fun σ => passAt tk σ) (pa_cons pe_str pa_nil)))))) (pss_cons (ps_set (i := 4) sc_Reading_parts.nd rfl (by first | exact .inl rfl | exact .inr rfl) (pe_methX (pv 0) cl_Reading mt_Reading_tree G_Reading_tree (hr.mono (by omega)) B_Reading_tree .nil (fun σ => passAt tk σ) (pa_cons pe_int pa_nil)))
  (pss_cons (ps_if (pt_cmpR op_isN1 (pv 4) pe_non (nomark _)) (pss_one (ps_ret pe_non)) pss_nil)
  (pss_one (ps_expr (pe_bm PySem.F.plainAttrs_list PySem.F.slot_list_append PySem.F.type_list_append mt_append (pv 3) (pa_cons (pv 4) pa_nil)))))))
  (pss_one (ps_ret (pe_ifExp (pt_val (pe_methX (pv 0) cl_Reading mt_Reading_takes G_Reading_takes (hr.mono (by omega)) B_Reading_takes .nil (fun σ => passAt tk σ) (pa_cons (pv 2) pa_nil))) (pe_callTy (xtup K) (by rfl) f_tuple (by decide +kernel) (pa_cons (pv 3) pa_nil)) pe_non)))))), ?_⟩
  unfold b_Reading_parts
  exact (es_seq (es_if (eb_not (eb_val (ev_meth (ev_var 0) (ea_cons (ev_var 1) ea_nil)))) (es_ret (ev_c fun _ => .non)) es_nx)
  (es_seq (es_asg (ev_lst ea_nil) eg_name)
  (es_seq (es_while (eb_or (eb_test (ev_op (ev_cb (ea_cons (ev_var 3) ea_nil) SL.rc_len) (ev_c fun _ => .int _) r2_eq)) (eb_val (ev_meth (ev_var 0) (ea_cons (ev_c (rv_lit (by rfl))) ea_nil)))) (es_seq (es_asg (ev_meth (ev_var 0) (ea_cons (ev_c fun _ => .int _) ea_nil)) eg_name)
  (es_seq (es_if (eb_test (ev_op (ev_var 4) (ev_c fun _ => .non) r2_is)) (es_ret (ev_c fun _ => .non)) es_nx)
  (es_drop (ev_bm ty_list (ev_var 3) (ea_cons (ev_var 4) ea_nil) rm_append)))))
  (es_ret (ev_if (eb_val (ev_meth (ev_var 0) (ea_cons (ev_var 2) ea_nil))) (ev_cb (ea_cons (ev_var 3) ea_nil) rc_tup) (ev_c fun _ => .non))))))
set_option maxHeartbeats 4000000 in
theorem st_Reading_either {P : Program} {w : World} {K : PySem.W.Frag} {mg : Str → Option Value} {base : Heap} {T : List Addr} {f : Addr} {fd : FuncData} (F : L2.Fun K "either" "Reading.either" s_Reading_either f fd)
    {a_Reading_tree : Addr} {fd_Reading_tree : FuncData} (B_Reading_tree : Binds K fd_Reading_tree ["self", "power"] [])
    {a_Reading_takes : Addr} {fd_Reading_takes : FuncData} (G_Reading_takes : FnOk P w K mg base (L2.CX P w) 2 a_Reading_takes fd_Reading_takes ["self", "word"] (spS ⟨K, T⟩ m_Reading_takes)) (B_Reading_takes : Binds K fd_Reading_takes ["self", "word"] [])
    (cl_Reading : Cls K (He.ga K "Reading"))
    (mt_Reading_tree : Meth K (He.ga K "Reading") "tree" a_Reading_tree)
    (mt_Reading_takes : Meth K (He.ga K "Reading") "takes" a_Reading_takes)
    (fo_at : FldOk K clss "at")
    (f_tuple : mg "tuple" = none)
    {M : Ms_Reading_tree} {n : Nat} (G_Reading_tree : FnOk P w K mg base (L2.CX P w) (3 + n) a_Reading_tree fd_Reading_tree ["self", "power"] (spS ⟨K, T⟩ M.f_Reading_tree)) :
    FnOk P w K mg base (L2.CX P w) (3 + n + 1) f fd ["self"] (spS ⟨K, T⟩ (defS 1 4 (b_Reading_either M))) := by
  refine fn_sl F sc_Reading_either T (b_Reading_either M) rfl rfl ?_
  intro A outer s H E hr
  have tk : Takes (cxOf (L2.CX P w) P w K mg base N_Reading_either "Reading.either" (defScope s_Reading_either) f fd.code A outer s H E) (fun c d _ H' => E c d H') := takes_of rfl rfl rfl rfl
  refine ⟨_, (pss_cons (ps_fldaug (pv 0) pe_int in_add)
  (pss_cons (ps_set (i := 1) sc_Reading_either.nd rfl (by first | exact .inl rfl | exact .inr rfl) (pe_lst (pa_cons pe_str pa_nil)))
  (pss_cons (ps_for (passes_of rfl) rfl (pi_tup (pe_tup (pa_cons pe_str (pa_cons pe_str (pa_cons pe_str pa_nil))))) (pg_name (i := 2) sc_Reading_either.nd rfl (by first | exact .inl rfl | exact .inr rfl)) (pss_cons (ps_set (i := 3) sc_Reading_either.nd rfl (by first | exact .inl rfl | exact .inr rfl) (pe_methX (pv 0) cl_Reading mt_Reading_tree G_Reading_tree (hr.mono (by omega)) B_Reading_tree .nil (fun σ => passAt tk σ) (pa_cons pe_int pa_nil)))
  (pss_cons (ps_if (PW.pt (pw_or (pt_cmpR op_isN1 (pv 3) pe_non (nomark _)) (pw_or1 (PW.pt (pw_and (pt_cmpR (xop_ne K hr) (pv 2) pe_str (nomark _)) (pw_and1 (pt_not (pt_val (pe_methX (pv 0) cl_Reading mt_Reading_takes G_Reading_takes (hr.mono (by omega)) B_Reading_takes .nil (fun σ => passAt tk σ) (pa_cons (pv 2) pa_nil)))))))))) (pss_one (ps_ret pe_non)) pss_nil)
  (pss_one (ps_expr (pe_bm PySem.F.plainAttrs_list PySem.F.slot_list_append PySem.F.type_list_append mt_append (pv 1) (pa_cons (pv 3) pa_nil)))))))
  (pss_one (ps_ret (pe_callTy (xtup K) (by rfl) f_tuple (by decide +kernel) (pa_cons (pv 1) pa_nil))))))), ?_⟩
  unfold b_Reading_either
  exact (es_seq (es_fldaug rfl fo_at (ev_var 0) (ev_c fun _ => .int _) r2_inAdd)
  (es_seq (es_asg (ev_lst (ea_cons (ev_c (rv_lit (by rfl))) ea_nil)) eg_name)
  (es_seq (es_for (ei_tup (ev_tup (ea_cons (ev_c (rv_lit (by rfl))) (ea_cons (ev_c (rv_lit (by rfl))) (ea_cons (ev_c (rv_lit (by rfl))) ea_nil))))) eg_name (es_seq (es_asg (ev_meth (ev_var 0) (ea_cons (ev_c fun _ => .int _) ea_nil)) eg_name)
  (es_seq (es_if (eb_or (eb_test (ev_op (ev_var 3) (ev_c fun _ => .non) r2_is)) (eb_and (eb_test (ev_op (ev_var 2) (ev_c (rv_lit (by rfl))) r2_ne)) (eb_not (eb_val (ev_meth (ev_var 0) (ea_cons (ev_var 2) ea_nil)))))) (es_ret (ev_c fun _ => .non)) es_nx)
  (es_drop (ev_bm ty_list (ev_var 1) (ea_cons (ev_var 3) ea_nil) rm_append)))))
  (es_ret (ev_cb (ea_cons (ev_var 1) ea_nil) rc_tup)))))
set_option maxHeartbeats 4000000 in
theorem st_Reading_each {P : Program} {w : World} {K : PySem.W.Frag} {mg : Str → Option Value} {base : Heap} {T : List Addr} {f : Addr} {fd : FuncData} (F : L2.Fun K "each" "Reading.each" s_Reading_each f fd)
    {a_Reading_word : Addr} {fd_Reading_word : FuncData} (G_Reading_word : FnOk P w K mg base (L2.CX P w) 1 a_Reading_word fd_Reading_word ["self"] (spS ⟨K, T⟩ m_Reading_word)) (B_Reading_word : Binds K fd_Reading_word ["self"] [])
    {a_is_number : Addr} {fd_is_number : FuncData} (G_is_number : FnOk P w K mg base (L2.CX P w) 2 a_is_number fd_is_number ["text"] (spS ⟨K, T⟩ m_is_number)) (B_is_number : Binds K fd_is_number ["text"] [])
    (g_is_number : mg "is_number" = some (.ref a_is_number)) (K_is_number : PySem.W.keepIn K (.ref a_is_number) = true)
    {a_is_name : Addr} {fd_is_name : FuncData} (G_is_name : FnOk P w K mg base (L2.CX P w) 2 a_is_name fd_is_name ["text"] (spS ⟨K, T⟩ m_is_name)) (B_is_name : Binds K fd_is_name ["text"] [])
    (g_is_name : mg "is_name" = some (.ref a_is_name)) (K_is_name : PySem.W.keepIn K (.ref a_is_name) = true)
    {a_Reading_takes : Addr} {fd_Reading_takes : FuncData} (G_Reading_takes : FnOk P w K mg base (L2.CX P w) 2 a_Reading_takes fd_Reading_takes ["self", "word"] (spS ⟨K, T⟩ m_Reading_takes)) (B_Reading_takes : Binds K fd_Reading_takes ["self", "word"] [])
    {a_Reading_tree : Addr} {fd_Reading_tree : FuncData} (B_Reading_tree : Binds K fd_Reading_tree ["self", "power"] [])
    (cl_Reading : Cls K (He.ga K "Reading"))
    (mt_Reading_word : Meth K (He.ga K "Reading") "word" a_Reading_word)
    (mt_Reading_takes : Meth K (He.ga K "Reading") "takes" a_Reading_takes)
    (mt_Reading_tree : Meth K (He.ga K "Reading") "tree" a_Reading_tree)
    (fo_at : FldOk K clss "at")
    {a_NUMBERED : Addr} (g_NUMBERED : mg "NUMBERED" = some (.ref a_NUMBERED)) (r_NUMBERED : ∀ G : Gd, RV K G (.ref a_NUMBERED) d_NUMBERED)
    (f_len : mg "len" = none)
    (f_int : mg "int" = none)
    {M : Ms_Reading_tree} {n : Nat} (G_Reading_tree : FnOk P w K mg base (L2.CX P w) (3 + n) a_Reading_tree fd_Reading_tree ["self", "power"] (spS ⟨K, T⟩ M.f_Reading_tree)) :
    FnOk P w K mg base (L2.CX P w) (3 + n + 1) f fd ["self", "word"] (spS ⟨K, T⟩ (defS 2 6 (b_Reading_each M))) := by
  refine fn_sl F sc_Reading_each T (b_Reading_each M) rfl rfl ?_
  intro A outer s H E hr
  have tk : Takes (cxOf (L2.CX P w) P w K mg base N_Reading_each "Reading.each" (defScope s_Reading_each) f fd.code A outer s H E) (fun c d _ H' => E c d H') := takes_of rfl rfl rfl rfl
  refine ⟨_, (pss_cons (ps_fldaug (pv 0) pe_int in_add)
  (pss_cons (ps_set (i := 2) sc_Reading_each.nd rfl (by first | exact .inl rfl | exact .inr rfl) pe_non)
  (pss_cons (ps_if (pt_cmpR (xop_in K hr) (pv 1) (pe_glob (v := .ref a_NUMBERED) (by rfl) g_NUMBERED rfl) (by rfl)) (pss_cons (ps_set (i := 2) sc_Reading_each.nd rfl (by first | exact .inl rfl | exact .inr rfl) (pe_methX0 (pv 0) cl_Reading mt_Reading_word G_Reading_word (hr.mono (by omega)) B_Reading_word .nil (fun σ => passAt tk σ)))
  (pss_cons (ps_fldaug (pv 0) pe_int in_add)
  (pss_cons (ps_if (PW.pt (pw_or (pt_not (pt_val (pe_callS G_is_number (hr.mono (by omega)) (by rfl) g_is_number K_is_number B_is_number (fun σ => passAt tk σ) (pa_cons (pv 2) pa_nil)))) (pw_or (pt_cmpR op_gt (pe_callB (xlen K) (by rfl) f_len (by decide +kernel) (pa_cons (pv 2) pa_nil)) pe_int (nomark _)) (pw_or1 (pt_cmpR op_gt (pe_callTy xint (by rfl) f_int (by decide +kernel) (pa_cons (pv 2) pa_nil)) (pe_ifExp (pt_cmpR (xop_eq K hr) (pv 1) pe_str (nomark _)) pe_int pe_int) (nomark _)))))) (pss_one (ps_ret pe_non)) pss_nil)
  (pss_one (ps_set (i := 2) sc_Reading_each.nd rfl (by first | exact .inl rfl | exact .inr rfl) (pe_callTy xint (by rfl) f_int (by decide +kernel) (pa_cons (pv 2) pa_nil))))))) pss_nil)
  (pss_cons (ps_set (i := 3) sc_Reading_each.nd rfl (by first | exact .inl rfl | exact .inr rfl) (pe_methX0 (pv 0) cl_Reading mt_Reading_word G_Reading_word (hr.mono (by omega)) B_Reading_word .nil (fun σ => passAt tk σ)))
  (pss_cons (ps_fldaug (pv 0) pe_int in_add)
  (pss_cons (ps_if (PW.pt (pw_or (pt_not (pt_val (pe_callS G_is_name (hr.mono (by omega)) (by rfl) g_is_name K_is_name B_is_name (fun σ => passAt tk σ) (pa_cons (pv 3) pa_nil)))) (pw_or1 (pt_not (pt_val (pe_methX (pv 0) cl_Reading mt_Reading_takes G_Reading_takes (hr.mono (by omega)) B_Reading_takes .nil (fun σ => passAt tk σ) (pa_cons pe_str pa_nil))))))) (pss_one (ps_ret pe_non)) pss_nil)
  (pss_cons (ps_set (i := 4) sc_Reading_each.nd rfl (by first | exact .inl rfl | exact .inr rfl) (pe_methX (pv 0) cl_Reading mt_Reading_tree G_Reading_tree (hr.mono (by omega)) B_Reading_tree .nil (fun σ => passAt tk σ) (pa_cons pe_int pa_nil)))
  (pss_cons (ps_if (PW.pt (pw_or (pt_cmpR op_isN1 (pv 4) pe_non (nomark _)) (pw_or1 (pt_not (pt_val (pe_methX (pv 0) cl_Reading mt_Reading_takes G_Reading_takes (hr.mono (by omega)) B_Reading_takes .nil (fun σ => passAt tk σ) (pa_cons pe_str pa_nil))))))) (pss_one (ps_ret pe_non)) pss_nil)
  (pss_cons (ps_set (i := 5) sc_Reading_each.nd rfl (by first | exact .inl rfl | exact .inr rfl) (pe_methX (pv 0) cl_Reading mt_Reading_tree G_Reading_tree (hr.mono (by omega)) B_Reading_tree .nil (fun σ => passAt tk σ) (pa_cons pe_int pa_nil)))
  (pss_one (ps_ret (pe_ifExp (pt_cmpR op_isN1 (pv 5) pe_non (nomark _)) pe_non (pe_tup (pa_cons pe_str (pa_cons (pv 1) (pa_cons (pv 2) (pa_cons (pv 3) (pa_cons (pv 4) (pa_cons (pv 5) pa_nil))))))))))))))))))), ?_⟩
  unfold b_Reading_each
  exact (es_seq (es_fldaug rfl fo_at (ev_var 0) (ev_c fun _ => .int _) r2_inAdd)
  (es_seq (es_asg (ev_c fun _ => .non) eg_name)
  (es_seq (es_if (eb_test (ev_op (ev_var 1) (ev_c r_NUMBERED) r2_in)) (es_seq (es_asg (ev_meth (ev_var 0) ea_nil) eg_name)
  (es_seq (es_fldaug rfl fo_at (ev_var 0) (ev_c fun _ => .int _) r2_inAdd)
  (es_seq (es_if (eb_or (eb_not (eb_val (ev_call (ea_cons (ev_var 2) ea_nil)))) (eb_or (eb_test (ev_op (ev_cb (ea_cons (ev_var 2) ea_nil) SL.rc_len) (ev_c fun _ => .int _) r2_gt)) (eb_test (ev_op (ev_cb (ea_cons (ev_var 2) ea_nil) rc_int) (ev_if (eb_test (ev_op (ev_var 1) (ev_c (rv_lit (by rfl))) r2_eq)) (ev_c fun _ => .int _) (ev_c fun _ => .int _)) r2_gt)))) (es_ret (ev_c fun _ => .non)) es_nx)
  (es_asg (ev_cb (ea_cons (ev_var 2) ea_nil) rc_int) eg_name)))) es_nx)
  (es_seq (es_asg (ev_meth (ev_var 0) ea_nil) eg_name)
  (es_seq (es_fldaug rfl fo_at (ev_var 0) (ev_c fun _ => .int _) r2_inAdd)
  (es_seq (es_if (eb_or (eb_not (eb_val (ev_call (ea_cons (ev_var 3) ea_nil)))) (eb_not (eb_val (ev_meth (ev_var 0) (ea_cons (ev_c (rv_lit (by rfl))) ea_nil))))) (es_ret (ev_c fun _ => .non)) es_nx)
  (es_seq (es_asg (ev_meth (ev_var 0) (ea_cons (ev_c fun _ => .int _) ea_nil)) eg_name)
  (es_seq (es_if (eb_or (eb_test (ev_op (ev_var 4) (ev_c fun _ => .non) r2_is)) (eb_not (eb_val (ev_meth (ev_var 0) (ea_cons (ev_c (rv_lit (by rfl))) ea_nil))))) (es_ret (ev_c fun _ => .non)) es_nx)
  (es_seq (es_asg (ev_meth (ev_var 0) (ea_cons (ev_c fun _ => .int _) ea_nil)) eg_name)
  (es_ret (ev_if (eb_test (ev_op (ev_var 5) (ev_c fun _ => .non) r2_is)) (ev_c fun _ => .non) (ev_tup (ea_cons (ev_c (rv_lit (by rfl))) (ea_cons (ev_var 1) (ea_cons (ev_var 2) (ea_cons (ev_var 3) (ea_cons (ev_var 4) (ea_cons (ev_var 5) ea_nil))))))))))))))))))
theorem okn_Reading_tree {P : Program} {w : World} {K : PySem.W.Frag} {mg : Str → Option Value} {base : Heap} {T : List Addr}
    {a_Reading_first : Addr} {fd_Reading_first : FuncData} (B_Reading_first : Binds K fd_Reading_first ["self"] [])
    {a_Reading_word : Addr} {fd_Reading_word : FuncData} (G_Reading_word : FnOk P w K mg base (L2.CX P w) 1 a_Reading_word fd_Reading_word ["self"] (spS ⟨K, T⟩ m_Reading_word)) (B_Reading_word : Binds K fd_Reading_word ["self"] [])
    {a_Reading_tree : Addr} {fd_Reading_tree : FuncData} (B_Reading_tree : Binds K fd_Reading_tree ["self", "power"] [])
    (cl_Reading : Cls K (He.ga K "Reading"))
    (mt_Reading_first : Meth K (He.ga K "Reading") "first" a_Reading_first)
    (mt_Reading_word : Meth K (He.ga K "Reading") "word" a_Reading_word)
    (mt_Reading_tree : Meth K (He.ga K "Reading") "tree" a_Reading_tree)
    (fo_at : FldOk K clss "at")
    (g_POWER : mg "POWER" = some (.ref (He.ga K "POWER"))) (D_POWER : KD K w "POWER" kd_POWER)
    {a_RIGHT : Addr} (g_RIGHT : mg "RIGHT" = some (.ref a_RIGHT)) (r_RIGHT : ∀ G : Gd, RV K G (.ref a_RIGHT) d_RIGHT)
    (f_max : mg "max" = none)
    {a_Reading_behind : Addr} {fd_Reading_behind : FuncData} (B_Reading_behind : Binds K fd_Reading_behind ["self", "word", "power"] [])
    {a_Reading_either : Addr} {fd_Reading_either : FuncData} (B_Reading_either : Binds K fd_Reading_either ["self"] [])
    {a_Reading_each : Addr} {fd_Reading_each : FuncData} (B_Reading_each : Binds K fd_Reading_each ["self", "word"] [])
    {a_Reading_parts : Addr} {fd_Reading_parts : FuncData} (B_Reading_parts : Binds K fd_Reading_parts ["self", "left", "right"] [])
    {a_Reading_takes : Addr} {fd_Reading_takes : FuncData} (G_Reading_takes : FnOk P w K mg base (L2.CX P w) 2 a_Reading_takes fd_Reading_takes ["self", "word"] (spS ⟨K, T⟩ m_Reading_takes)) (B_Reading_takes : Binds K fd_Reading_takes ["self", "word"] [])
    {a_Reading_plain : Addr} {fd_Reading_plain : FuncData} (B_Reading_plain : Binds K fd_Reading_plain ["self", "word"] [])
    (mt_Reading_behind : Meth K (He.ga K "Reading") "behind" a_Reading_behind)
    (mt_Reading_either : Meth K (He.ga K "Reading") "either" a_Reading_either)
    (mt_Reading_each : Meth K (He.ga K "Reading") "each" a_Reading_each)
    (mt_Reading_parts : Meth K (He.ga K "Reading") "parts" a_Reading_parts)
    (mt_Reading_takes : Meth K (He.ga K "Reading") "takes" a_Reading_takes)
    (mt_Reading_plain : Meth K (He.ga K "Reading") "plain" a_Reading_plain)
    {a_EACH : Addr} (g_EACH : mg "EACH" = some (.ref a_EACH)) (r_EACH : ∀ G : Gd, RV K G (.ref a_EACH) d_EACH)
    (g_PLACES : mg "PLACES" = some (.ref (He.ga K "PLACES"))) (D_PLACES : KD K w "PLACES" kd_PLACES)
    (f_len : mg "len" = none)
    {a_is_number : Addr} {fd_is_number : FuncData} (G_is_number : FnOk P w K mg base (L2.CX P w) 2 a_is_number fd_is_number ["text"] (spS ⟨K, T⟩ m_is_number)) (B_is_number : Binds K fd_is_number ["text"] [])
    (g_is_number : mg "is_number" = some (.ref a_is_number)) (K_is_number : PySem.W.keepIn K (.ref a_is_number) = true)
    {a_is_name : Addr} {fd_is_name : FuncData} (G_is_name : FnOk P w K mg base (L2.CX P w) 2 a_is_name fd_is_name ["text"] (spS ⟨K, T⟩ m_is_name)) (B_is_name : Binds K fd_is_name ["text"] [])
    (g_is_name : mg "is_name" = some (.ref a_is_name)) (K_is_name : PySem.W.keepIn K (.ref a_is_name) = true)
    (f_int : mg "int" = none)
    (f_tuple : mg "tuple" = none)
    {a_NUMBERED : Addr} (g_NUMBERED : mg "NUMBERED" = some (.ref a_NUMBERED)) (r_NUMBERED : ∀ G : Gd, RV K G (.ref a_NUMBERED) d_NUMBERED)
    (F_Reading_tree : L2.Fun K "tree" "Reading.tree" s_Reading_tree a_Reading_tree fd_Reading_tree)
    (F_Reading_first : L2.Fun K "first" "Reading.first" s_Reading_first a_Reading_first fd_Reading_first)
    (F_Reading_plain : L2.Fun K "plain" "Reading.plain" s_Reading_plain a_Reading_plain fd_Reading_plain)
    (F_Reading_behind : L2.Fun K "behind" "Reading.behind" s_Reading_behind a_Reading_behind fd_Reading_behind)
    (F_Reading_parts : L2.Fun K "parts" "Reading.parts" s_Reading_parts a_Reading_parts fd_Reading_parts)
    (F_Reading_either : L2.Fun K "either" "Reading.either" s_Reading_either a_Reading_either fd_Reading_either)
    (F_Reading_each : L2.Fun K "each" "Reading.each" s_Reading_each a_Reading_each fd_Reading_each) : ∀ n : Nat,
    FnOk P w K mg base (L2.CX P w) (3 + n) a_Reading_tree fd_Reading_tree ["self", "power"] (spS ⟨K, T⟩ (ms_Reading_tree n).f_Reading_tree) ∧
    FnOk P w K mg base (L2.CX P w) (3 + n) a_Reading_first fd_Reading_first ["self"] (spS ⟨K, T⟩ (ms_Reading_tree n).f_Reading_first) ∧
    FnOk P w K mg base (L2.CX P w) (3 + n) a_Reading_plain fd_Reading_plain ["self", "word"] (spS ⟨K, T⟩ (ms_Reading_tree n).f_Reading_plain) ∧
    FnOk P w K mg base (L2.CX P w) (3 + n) a_Reading_behind fd_Reading_behind ["self", "word", "power"] (spS ⟨K, T⟩ (ms_Reading_tree n).f_Reading_behind) ∧
    FnOk P w K mg base (L2.CX P w) (3 + n) a_Reading_parts fd_Reading_parts ["self", "left", "right"] (spS ⟨K, T⟩ (ms_Reading_tree n).f_Reading_parts) ∧
    FnOk P w K mg base (L2.CX P w) (3 + n) a_Reading_either fd_Reading_either ["self"] (spS ⟨K, T⟩ (ms_Reading_tree n).f_Reading_either) ∧
    FnOk P w K mg base (L2.CX P w) (3 + n) a_Reading_each fd_Reading_each ["self", "word"] (spS ⟨K, T⟩ (ms_Reading_tree n).f_Reading_each) := by
  intro n
  induction n with
  | zero => exact ⟨fn_bad, fn_bad, fn_bad, fn_bad, fn_bad, fn_bad, fn_bad⟩
  | succ n ih =>
    obtain ⟨G_Reading_tree, G_Reading_first, G_Reading_plain, G_Reading_behind, G_Reading_parts, G_Reading_either, G_Reading_each⟩ := ih
    exact ⟨st_Reading_tree (F := F_Reading_tree) (B_Reading_first := B_Reading_first) (G_Reading_word := G_Reading_word) (B_Reading_word := B_Reading_word) (B_Reading_tree := B_Reading_tree) (cl_Reading := cl_Reading) (mt_Reading_first := mt_Reading_first) (mt_Reading_word := mt_Reading_word) (mt_Reading_tree := mt_Reading_tree) (fo_at := fo_at) (g_POWER := g_POWER) (D_POWER := D_POWER) (g_RIGHT := g_RIGHT) (r_RIGHT := r_RIGHT) (f_max := f_max) (G_Reading_first := G_Reading_first) (G_Reading_tree := G_Reading_tree),
      st_Reading_first (F := F_Reading_first) (G_Reading_word := G_Reading_word) (B_Reading_word := B_Reading_word) (B_Reading_behind := B_Reading_behind) (B_Reading_either := B_Reading_either) (B_Reading_each := B_Reading_each) (B_Reading_parts := B_Reading_parts) (G_Reading_takes := G_Reading_takes) (B_Reading_takes := B_Reading_takes) (B_Reading_tree := B_Reading_tree) (B_Reading_plain := B_Reading_plain) (cl_Reading := cl_Reading) (mt_Reading_word := mt_Reading_word) (mt_Reading_behind := mt_Reading_behind) (mt_Reading_either := mt_Reading_either) (mt_Reading_each := mt_Reading_each) (mt_Reading_parts := mt_Reading_parts) (mt_Reading_takes := mt_Reading_takes) (mt_Reading_tree := mt_Reading_tree) (mt_Reading_plain := mt_Reading_plain) (fo_at := fo_at) (g_EACH := g_EACH) (r_EACH := r_EACH) (g_PLACES := g_PLACES) (D_PLACES := D_PLACES) (f_len := f_len) (G_Reading_behind := G_Reading_behind) (G_Reading_either := G_Reading_either) (G_Reading_each := G_Reading_each) (G_Reading_parts := G_Reading_parts) (G_Reading_tree := G_Reading_tree) (G_Reading_plain := G_Reading_plain),
      st_Reading_plain (F := F_Reading_plain) (G_is_number := G_is_number) (B_is_number := B_is_number) (g_is_number := g_is_number) (K_is_number := K_is_number) (G_is_name := G_is_name) (B_is_name := B_is_name) (g_is_name := g_is_name) (K_is_name := K_is_name) (G_Reading_word := G_Reading_word) (B_Reading_word := B_Reading_word) (B_Reading_parts := B_Reading_parts) (cl_Reading := cl_Reading) (mt_Reading_word := mt_Reading_word) (mt_Reading_parts := mt_Reading_parts) (fo_at := fo_at) (f_len := f_len) (f_int := f_int) (G_Reading_parts := G_Reading_parts),
      st_Reading_behind (F := F_Reading_behind) (B_Reading_tree := B_Reading_tree) (cl_Reading := cl_Reading) (mt_Reading_tree := mt_Reading_tree) (G_Reading_tree := G_Reading_tree),
      st_Reading_parts (F := F_Reading_parts) (G_Reading_takes := G_Reading_takes) (B_Reading_takes := B_Reading_takes) (B_Reading_tree := B_Reading_tree) (cl_Reading := cl_Reading) (mt_Reading_takes := mt_Reading_takes) (mt_Reading_tree := mt_Reading_tree) (f_len := f_len) (f_tuple := f_tuple) (G_Reading_tree := G_Reading_tree),
      st_Reading_either (F := F_Reading_either) (B_Reading_tree := B_Reading_tree) (G_Reading_takes := G_Reading_takes) (B_Reading_takes := B_Reading_takes) (cl_Reading := cl_Reading) (mt_Reading_tree := mt_Reading_tree) (mt_Reading_takes := mt_Reading_takes) (fo_at := fo_at) (f_tuple := f_tuple) (G_Reading_tree := G_Reading_tree),
      st_Reading_each (F := F_Reading_each) (G_Reading_word := G_Reading_word) (B_Reading_word := B_Reading_word) (G_is_number := G_is_number) (B_is_number := B_is_number) (g_is_number := g_is_number) (K_is_number := K_is_number) (G_is_name := G_is_name) (B_is_name := B_is_name) (g_is_name := g_is_name) (K_is_name := K_is_name) (G_Reading_takes := G_Reading_takes) (B_Reading_takes := B_Reading_takes) (B_Reading_tree := B_Reading_tree) (cl_Reading := cl_Reading) (mt_Reading_word := mt_Reading_word) (mt_Reading_takes := mt_Reading_takes) (mt_Reading_tree := mt_Reading_tree) (fo_at := fo_at) (g_NUMBERED := g_NUMBERED) (r_NUMBERED := r_NUMBERED) (f_len := f_len) (f_int := f_int) (G_Reading_tree := G_Reading_tree)⟩
/-! ### parse_tree -/
abbrev s_parse_tree : Stmt := topS 21
abbrev N_parse_tree : List Str := ["words", "reading", "tree"]
theorem sc_parse_tree : FnScope N_parse_tree ["words"] (defScope s_parse_tree) := ⟨rfl, rfl, rfl, by decide +kernel, rfl, by decide +kernel, by decide +kernel⟩
def b_parse_tree_0 : Fs := (sAsg (fMake "Reading" m_Reading___init__ (aCons (fVar 0) (aCons (fC (.int 0)) aNil))) (gN 1))
def b_parse_tree_1 : Fs := (sAsg (fMeth "Reading" "tree" m_Reading_tree (fVar 1) (aCons (fC (.int 0)) aNil)) (gN 2))
def b_parse_tree_2 : Fs := (sRet (fIf (fB (fOp (lift2 gEq) (fUn (gFldC clss "at") (fVar 1)) (fCB SL.gLen (aCons (fVar 0) aNil)))) (fVar 2) (fC .non)))
def b_parse_tree : Fs :=
  (sSeq b_parse_tree_0 (sSeq b_parse_tree_1 b_parse_tree_2))
def m_parse_tree : Fn := iso (defS 1 3 b_parse_tree)
set_option maxHeartbeats 4000000 in
theorem ok_parse_tree {P : Program} {w : World} {K : PySem.W.Frag} {mg : Str → Option Value} {base : Heap} {T : List Addr} {f : Addr} {fd : FuncData} (F : L2.Fun K "parse_tree" "parse_tree" s_parse_tree f fd)
    {a_Reading___init__ : Addr} {fd_Reading___init__ : FuncData} (G_Reading___init__ : FnOk P w K mg base (L2.CX P w) 1 a_Reading___init__ fd_Reading___init__ ["self", "words", "at"] (spS ⟨K, T⟩ m_Reading___init__)) (B_Reading___init__ : Binds K fd_Reading___init__ ["self", "words", "at"] [])
    {a_Reading_tree : Addr} {fd_Reading_tree : FuncData} (G_Reading_tree : FnOk P w K mg base (L2.CX P w) 63 a_Reading_tree fd_Reading_tree ["self", "power"] (spS ⟨K, T⟩ m_Reading_tree)) (B_Reading_tree : Binds K fd_Reading_tree ["self", "power"] [])
    (cl_Reading : Cls K (He.ga K "Reading"))
    (mt_Reading_tree : Meth K (He.ga K "Reading") "tree" a_Reading_tree)
    (mk_Reading : Mk K (He.ga K "Reading") a_Reading___init__) (gc_Reading : mg "Reading" = some (.ref (He.ga K "Reading")))
    (fo_at : FldOk K clss "at")
    (f_len : mg "len" = none) :
    FnOk P w K mg base (L2.CX P w) 65 f fd ["words"] (spS ⟨K, T⟩ m_parse_tree) := by
  refine SL.FnOk.iso (fn_sl F sc_parse_tree T b_parse_tree rfl rfl ?_)
  intro A outer s H E hr
  have tk : Takes (cxOf (L2.CX P w) P w K mg base N_parse_tree "parse_tree" (defScope s_parse_tree) f fd.code A outer s H E) (fun c d _ H' => E c d H') := takes_of rfl rfl rfl rfl
  refine ⟨_, (pss_cons (ps_set (i := 1) sc_parse_tree.nd rfl (by first | exact .inl rfl | exact .inr rfl) (pe_makeX mk_Reading G_Reading___init__ (hr.mono (by omega)) (by rfl) gc_Reading B_Reading___init__ .nil (fun σ => passAt tk σ) (pa_cons (pv 0) (pa_cons pe_int pa_nil))))
  (pss_cons (ps_set (i := 2) sc_parse_tree.nd rfl (by first | exact .inl rfl | exact .inr rfl) (pe_methX (pv 1) cl_Reading mt_Reading_tree G_Reading_tree (hr.mono (by omega)) B_Reading_tree .nil (fun σ => passAt tk σ) (pa_cons pe_int pa_nil)))
  (pss_one (ps_ret (pe_ifExp (pt_cmpR (xop_eq K hr) (pe_fld (pv 1) rfl) (pe_callB (xlen K) (by rfl) f_len (by decide +kernel) (pa_cons (pv 0) pa_nil)) (nomark _)) (pv 2) pe_non))))), ?_⟩
  unfold b_parse_tree
  exact (es_seq (es_asg (ev_make (ea_cons (ev_var 0) (ea_cons (ev_c fun _ => .int _) ea_nil))) eg_name)
  (es_seq (es_asg (ev_meth (ev_var 1) (ea_cons (ev_c fun _ => .int _) ea_nil)) eg_name)
  (es_ret (ev_if (eb_test (ev_op (ev_fld fo_at (ev_var 1)) (ev_cb (ea_cons (ev_var 0) ea_nil) SL.rc_len) r2_eq)) (ev_var 2) (ev_c fun _ => .non)))))
/-! ### _law_cell (data layer) -/
abbrev s__law_cell : Stmt := topS 23
def m__law_cell : Fn := liftD DK06.m__law_cell
/-! ### _law_draw (data layer) -/
abbrev s__law_draw : Stmt := topS 24
def m__law_draw : Fn := liftD DK06.m__law_draw
structure Ms__law_strictly where
  f__law_strictly : Fn
/-! ### _law_strictly -/
abbrev s__law_strictly : Stmt := topS 25
abbrev N__law_strictly : List Str := ["expected", "actual", "place"]
theorem sc__law_strictly : FnScope N__law_strictly ["expected", "actual"] (defScope s__law_strictly) := ⟨rfl, rfl, rfl, by decide +kernel, rfl, by decide +kernel, by decide +kernel⟩
def b__law_strictly_0_0 (M : Ms__law_strictly) : Fs := (sRet (fOp SL.gIs (fVar 1) (fC .non)))
def b__law_strictly_0 (M : Ms__law_strictly) : Fs := (sIf (fB (fOp SL.gIs (fVar 0) (fC .non))) (b__law_strictly_0_0 M) sNx)
def b__law_strictly_1_0 (M : Ms__law_strictly) : Fs := (sRet (fV (fAnd (fB (fIsi "bool" (fVar 1))) (fB (fOp (lift2 gEq) (fVar 1) (fVar 0))))))
def b__law_strictly_1 (M : Ms__law_strictly) : Fs := (sIf (fB (fIsi "bool" (fVar 0))) (b__law_strictly_1_0 M) sNx)
def b__law_strictly_2_0 (M : Ms__law_strictly) : Fs := (sRet (fV (fAnd (fB (fIsi "int" (fVar 1))) (fB (fV (fAnd (fB (fV (tNot' (fB (fIsi "bool" (fVar 1)))))) (fB (fOp (lift2 gEq) (fVar 1) (fVar 0)))))))))
def b__law_strictly_2 (M : Ms__law_strictly) : Fs := (sIf (fB (fIsi "int" (fVar 0))) (b__law_strictly_2_0 M) sNx)
def b__law_strictly_3_0 (M : Ms__law_strictly) : Fs := (sRet (fV (fAnd (fB (fIsi "str" (fVar 1))) (fB (fOp (lift2 gEq) (fVar 1) (fVar 0))))))
def b__law_strictly_3 (M : Ms__law_strictly) : Fs := (sIf (fB (fIsi "str" (fVar 0))) (b__law_strictly_3_0 M) sNx)
def b__law_strictly_4_0 (M : Ms__law_strictly) : Fs := (sRet (fC (.bl false)))
def b__law_strictly_4 (M : Ms__law_strictly) : Fs := (sIf (fOr (fB (fOp (lift2 gNe) (fIsi "tuple" (fVar 0)) (fIsi "tuple" (fVar 1)))) (fB (fOp (lift2 gNe) (fIsi "list" (fVar 0)) (fIsi "list" (fVar 1))))) (b__law_strictly_4_0 M) sNx)
def b__law_strictly_5_0_0 (M : Ms__law_strictly) : Fs := (sRet (fC (.bl false)))
def b__law_strictly_5_0 (M : Ms__law_strictly) : Fs := (sIf (fB (fOp (lift2 gNe) (fCB SL.gLen (aCons (fVar 1) aNil)) (fCB SL.gLen (aCons (fVar 0) aNil)))) (b__law_strictly_5_0_0 M) sNx)
def b__law_strictly_5_1_0_0 (M : Ms__law_strictly) : Fs := (sRet (fC (.bl false)))
def b__law_strictly_5_1_0 (M : Ms__law_strictly) : Fs := (sIf (tNot' (fB (fCall M.f__law_strictly (aCons (fOp SL.gIx (fVar 0) (fVar 2)) (aCons (fOp SL.gIx (fVar 1) (fVar 2)) aNil))))) (b__law_strictly_5_1_0_0 M) sNx)
def b__law_strictly_5_1 (M : Ms__law_strictly) : Fs := (sFor (iR1 (aCons (fCB SL.gLen (aCons (fVar 0) aNil)) aNil)) (gN 2) (b__law_strictly_5_1_0 M))
def b__law_strictly_5_2 (M : Ms__law_strictly) : Fs := (sRet (fC (.bl true)))
def b__law_strictly_5 (M : Ms__law_strictly) : Fs := (sIf (fOr (fB (fIsi "tuple" (fVar 0))) (fB (fIsi "list" (fVar 0)))) (sSeq (b__law_strictly_5_0 M) (sSeq (b__law_strictly_5_1 M) (b__law_strictly_5_2 M))) sNx)
def b__law_strictly_6 (M : Ms__law_strictly) : Fs := (sRet (fOp (lift2 gEq) (fVar 1) (fVar 0)))
def b__law_strictly (M : Ms__law_strictly) : Fs :=
  (sSeq (b__law_strictly_0 M) (sSeq (b__law_strictly_1 M) (sSeq (b__law_strictly_2 M) (sSeq (b__law_strictly_3 M) (sSeq (b__law_strictly_4 M) (sSeq (b__law_strictly_5 M) (b__law_strictly_6 M)))))))
def ms__law_strictly : Nat → Ms__law_strictly
  | 0 => ⟨fun _ _ => .bad⟩
  | n + 1 => ⟨defS 2 3 (b__law_strictly (ms__law_strictly n))⟩
def m__law_strictly : Fn := (ms__law_strictly 60).f__law_strictly
set_option maxHeartbeats 4000000 in
theorem st__law_strictly {P : Program} {w : World} {K : PySem.W.Frag} {mg : Str → Option Value} {base : Heap} {T : List Addr} {f : Addr} {fd : FuncData} (F : L2.Fun K "_law_strictly" "_law_strictly" s__law_strictly f fd)
    {a__law_strictly : Addr} {fd__law_strictly : FuncData} (B__law_strictly : Binds K fd__law_strictly ["expected", "actual"] [])
    (g__law_strictly : mg "_law_strictly" = some (.ref a__law_strictly)) (K__law_strictly : PySem.W.keepIn K (.ref a__law_strictly) = true)
    (f_isinstance : mg "isinstance" = none)
    (f_bool : mg "bool" = none)
    (f_int : mg "int" = none)
    (f_str : mg "str" = none)
    (f_tuple : mg "tuple" = none)
    (f_list : mg "list" = none)
    (f_len : mg "len" = none)
    (f_range : mg "range" = none)
    {M : Ms__law_strictly} {n : Nat} (G__law_strictly : FnOk P w K mg base (L2.CX P w) (1 + n) a__law_strictly fd__law_strictly ["expected", "actual"] (spS ⟨K, T⟩ M.f__law_strictly)) :
    FnOk P w K mg base (L2.CX P w) (1 + n + 1) f fd ["expected", "actual"] (spS ⟨K, T⟩ (defS 2 3 (b__law_strictly M))) := by
  refine fn_sl F sc__law_strictly T (b__law_strictly M) rfl rfl ?_
  intro A outer s H E hr
  have tk : Takes (cxOf (L2.CX P w) P w K mg base N__law_strictly "_law_strictly" (defScope s__law_strictly) f fd.code A outer s H E) (fun c d _ H' => E c d H') := takes_of rfl rfl rfl rfl
  refine ⟨_, (pss_cons (ps_if (pt_cmpR op_isN1 (pv 0) pe_non (nomark _)) (pss_one (ps_ret (pe_cmpR op_isN1 (pv 1) pe_non (nomark _)))) pss_nil)
  (pss_cons (ps_if (pt_val (pe_callB (xisi K) (by rfl) f_isinstance (by decide +kernel) (pa_cons (pv 0) (pa_cons (pe_bltn (v := .ty "bool") (by rfl) f_bool (by decide +kernel) rfl) pa_nil)))) (pss_one (ps_ret (pe_and (pe_callB (xisi K) (by rfl) f_isinstance (by decide +kernel) (pa_cons (pv 1) (pa_cons (pe_bltn (v := .ty "bool") (by rfl) f_bool (by decide +kernel) rfl) pa_nil))) (pe_one (pe_cmpR (xop_eq K hr) (pv 1) (pv 0) (nomark _)))))) pss_nil)
  (pss_cons (ps_if (pt_val (pe_callB (xisi K) (by rfl) f_isinstance (by decide +kernel) (pa_cons (pv 0) (pa_cons (pe_bltn (v := .ty "int") (by rfl) f_int (by decide +kernel) rfl) pa_nil)))) (pss_one (ps_ret (pe_and (pe_callB (xisi K) (by rfl) f_isinstance (by decide +kernel) (pa_cons (pv 1) (pa_cons (pe_bltn (v := .ty "int") (by rfl) f_int (by decide +kernel) rfl) pa_nil))) (pe_and (pe_not (pe_callB (xisi K) (by rfl) f_isinstance (by decide +kernel) (pa_cons (pv 1) (pa_cons (pe_bltn (v := .ty "bool") (by rfl) f_bool (by decide +kernel) rfl) pa_nil)))) (pe_one (pe_cmpR (xop_eq K hr) (pv 1) (pv 0) (nomark _))))))) pss_nil)
  (pss_cons (ps_if (pt_val (pe_callB (xisi K) (by rfl) f_isinstance (by decide +kernel) (pa_cons (pv 0) (pa_cons (pe_bltn (v := .ty "str") (by rfl) f_str (by decide +kernel) rfl) pa_nil)))) (pss_one (ps_ret (pe_and (pe_callB (xisi K) (by rfl) f_isinstance (by decide +kernel) (pa_cons (pv 1) (pa_cons (pe_bltn (v := .ty "str") (by rfl) f_str (by decide +kernel) rfl) pa_nil))) (pe_one (pe_cmpR (xop_eq K hr) (pv 1) (pv 0) (nomark _)))))) pss_nil)
  (pss_cons (ps_if (PW.pt (pw_or (pt_cmpR (xop_ne K hr) (pe_callB (xisi K) (by rfl) f_isinstance (by decide +kernel) (pa_cons (pv 0) (pa_cons (pe_bltn (v := .ty "tuple") (by rfl) f_tuple (by decide +kernel) rfl) pa_nil))) (pe_callB (xisi K) (by rfl) f_isinstance (by decide +kernel) (pa_cons (pv 1) (pa_cons (pe_bltn (v := .ty "tuple") (by rfl) f_tuple (by decide +kernel) rfl) pa_nil))) (nomark _)) (pw_or1 (pt_cmpR (xop_ne K hr) (pe_callB (xisi K) (by rfl) f_isinstance (by decide +kernel) (pa_cons (pv 0) (pa_cons (pe_bltn (v := .ty "list") (by rfl) f_list (by decide +kernel) rfl) pa_nil))) (pe_callB (xisi K) (by rfl) f_isinstance (by decide +kernel) (pa_cons (pv 1) (pa_cons (pe_bltn (v := .ty "list") (by rfl) f_list (by decide +kernel) rfl) pa_nil))) (nomark _))))) (pss_one (ps_ret pe_bl)) pss_nil)
  (pss_cons (ps_if (PW.pt (pw_or (pt_val (pe_callB (xisi K) (by rfl) f_isinstance (by decide +kernel) (pa_cons (pv 0) (pa_cons (pe_bltn (v := .ty "tuple") (by rfl) f_tuple (by decide +kernel) rfl) pa_nil)))) (pw_or1 (pt_val (pe_callB (xisi K) (by rfl) f_isinstance (by decide +kernel) (pa_cons (pv 0) (pa_cons (pe_bltn (v := .ty "list") (by rfl) f_list (by decide +kernel) rfl) pa_nil))))))) (pss_cons (ps_if (pt_cmpR (xop_ne K hr) (pe_callB (xlen K) (by rfl) f_len (by decide +kernel) (pa_cons (pv 1) pa_nil)) (pe_callB (xlen K) (by rfl) f_len (by decide +kernel) (pa_cons (pv 0) pa_nil)) (nomark _)) (pss_one (ps_ret pe_bl)) pss_nil)
  (pss_cons (ps_for (passes_of rfl) rfl (pi_range1 (by rfl) f_range (pa_cons (pe_callB (xlen K) (by rfl) f_len (by decide +kernel) (pa_cons (pv 0) pa_nil)) pa_nil)) (pg_name (i := 2) sc__law_strictly.nd rfl (by first | exact .inl rfl | exact .inr rfl)) (pss_one (ps_if (pt_not (pt_val (pe_callS G__law_strictly (hr.mono (by omega)) (by rfl) g__law_strictly K__law_strictly B__law_strictly (fun σ => passAt tk σ) (pa_cons (pe_ix (xix K) (pv 0) (pv 2) (fun _ _ => rfl)) (pa_cons (pe_ix (xix K) (pv 1) (pv 2) (fun _ _ => rfl)) pa_nil))))) (pss_one (ps_ret pe_bl)) pss_nil)))
  (pss_one (ps_ret pe_bl)))) pss_nil)
  (pss_one (ps_ret (pe_cmpR (xop_eq K hr) (pv 1) (pv 0) (nomark _)))))))))), ?_⟩
  unfold b__law_strictly
  exact (es_seq (es_if (eb_test (ev_op (ev_var 0) (ev_c fun _ => .non) r2_is)) (es_ret (ev_op (ev_var 1) (ev_c fun _ => .non) r2_is)) es_nx)
  (es_seq (es_if (eb_val (ev_isi (ev_var 0))) (es_ret (ev_andV (ev_isi (ev_var 1)) (ev_op (ev_var 1) (ev_var 0) r2_eq))) es_nx)
  (es_seq (es_if (eb_val (ev_isi (ev_var 0))) (es_ret (ev_andV (ev_isi (ev_var 1)) (ev_andV (ev_notV (ev_isi (ev_var 1))) (ev_op (ev_var 1) (ev_var 0) r2_eq)))) es_nx)
  (es_seq (es_if (eb_val (ev_isi (ev_var 0))) (es_ret (ev_andV (ev_isi (ev_var 1)) (ev_op (ev_var 1) (ev_var 0) r2_eq))) es_nx)
  (es_seq (es_if (eb_or (eb_test (ev_op (ev_isi (ev_var 0)) (ev_isi (ev_var 1)) r2_ne)) (eb_test (ev_op (ev_isi (ev_var 0)) (ev_isi (ev_var 1)) r2_ne))) (es_ret (ev_c fun _ => .bl _)) es_nx)
  (es_seq (es_if (eb_or (eb_val (ev_isi (ev_var 0))) (eb_val (ev_isi (ev_var 0)))) (es_seq (es_if (eb_test (ev_op (ev_cb (ea_cons (ev_var 1) ea_nil) SL.rc_len) (ev_cb (ea_cons (ev_var 0) ea_nil) SL.rc_len) r2_ne)) (es_ret (ev_c fun _ => .bl _)) es_nx)
  (es_seq (es_for (ei_r1 (ea_cons (ev_cb (ea_cons (ev_var 0) ea_nil) SL.rc_len) ea_nil)) eg_name (es_if (eb_not (eb_val (ev_call (ea_cons (ev_op (ev_var 0) (ev_var 2) r2_ix) (ea_cons (ev_op (ev_var 1) (ev_var 2) r2_ix) ea_nil))))) (es_ret (ev_c fun _ => .bl _)) es_nx))
  (es_ret (ev_c fun _ => .bl _)))) es_nx)
  (es_ret (ev_op (ev_var 1) (ev_var 0) r2_eq))))))))
theorem okn__law_strictly {P : Program} {w : World} {K : PySem.W.Frag} {mg : Str → Option Value} {base : Heap} {T : List Addr}
    {a__law_strictly : Addr} {fd__law_strictly : FuncData} (B__law_strictly : Binds K fd__law_strictly ["expected", "actual"] [])
    (g__law_strictly : mg "_law_strictly" = some (.ref a__law_strictly)) (K__law_strictly : PySem.W.keepIn K (.ref a__law_strictly) = true)
    (f_isinstance : mg "isinstance" = none)
    (f_bool : mg "bool" = none)
    (f_int : mg "int" = none)
    (f_str : mg "str" = none)
    (f_tuple : mg "tuple" = none)
    (f_list : mg "list" = none)
    (f_len : mg "len" = none)
    (f_range : mg "range" = none)
    (F__law_strictly : L2.Fun K "_law_strictly" "_law_strictly" s__law_strictly a__law_strictly fd__law_strictly) : ∀ n : Nat,
    FnOk P w K mg base (L2.CX P w) (1 + n) a__law_strictly fd__law_strictly ["expected", "actual"] (spS ⟨K, T⟩ (ms__law_strictly n).f__law_strictly) := by
  intro n
  induction n with
  | zero => exact fn_bad
  | succ n ih =>
    have G__law_strictly := ih
    exact st__law_strictly (F := F__law_strictly) (B__law_strictly := B__law_strictly) (g__law_strictly := g__law_strictly) (K__law_strictly := K__law_strictly) (f_isinstance := f_isinstance) (f_bool := f_bool) (f_int := f_int) (f_str := f_str) (f_tuple := f_tuple) (f_list := f_list) (f_len := f_len) (f_range := f_range) (G__law_strictly := G__law_strictly)
/-! ### _law_tree -/
abbrev s__law_tree : Stmt := topS 26
abbrev N__law_tree : List Str := ["script", "many", "power", "marks", "pool", "at", "digits", "mark", "own", "left", "right", "one", "first", "close", "other", "second", "near", "word"]
theorem sc__law_tree : FnScope N__law_tree ["script", "many"] (defScope s__law_tree) := ⟨rfl, rfl, rfl, by decide +kernel, rfl, by decide +kernel, by decide +kernel⟩
def b__law_tree_0 : Fs := (sAsg (fDisp (ppCons (fC (.str [60, 45, 62])) (fC (.int 1)) (ppCons (fC (.str [45, 62])) (fC (.int 2)) (ppCons (fC (.str [111, 114])) (fC (.int 3)) (ppCons (fC (.str [97, 110, 100])) (fC (.int 4)) (ppCons (fC (.str [61])) (fC (.int 6)) (ppCons (fC (.str [60])) (fC (.int 6)) (ppCons (fC (.str [105, 110])) (fC (.int 6)) (ppCons (fC (.str [43])) (fC (.int 7)) (ppCons (fC (.str [45])) (fC (.int 7)) (ppCons (fC (.str [42])) (fC (.int 8)) ppNil))))))))))) (gN 2))
def b__law_tree_1 : Fs := (sAsg (fLstF (aCons (fC (.str [60, 45, 62])) (aCons (fC (.str [45, 62])) (aCons (fC (.str [111, 114])) (aCons (fC (.str [97, 110, 100])) (aCons (fC (.str [61])) (aCons (fC (.str [60])) (aCons (fC (.str [105, 110])) (aCons (fC (.str [43])) (aCons (fC (.str [45])) (aCons (fC (.str [42])) aNil))))))))))) (gN 3))
def b__law_tree_2 : Fs := (sAsg (fLc (iL (fSl (fLst (aCons (fC (.str [97])) (aCons (fC (.str [98])) (aCons (fC (.str [99])) (aCons (fC (.str [100])) (aCons (fC (.str [107])) aNil)))))) oNone (oSome (fVar 1)))) (gN 17) (fun _ S => .ok true S) (fTup (aCons (fTup (aCons (fC (.str [110, 97, 109, 101])) (aCons (fVar 17) aNil))) (aCons (fVar 17) (aCons (fC (.int 9)) aNil)))) [17]) (gN 4))
def b__law_tree_3_0 : Fs := (sAsg (fCall m__law_draw (aCons (fVar 0) (aCons (fOp (lift2F gAdd) (fC (.int 1)) (fVar 5)) (aCons (fLstF (aCons (fC (.int 10)) (aCons (fC (.int 9)) (aCons (fC (.int 5)) aNil)))) aNil)))) (gN 6))
def b__law_tree_3_1 : Fs := (sAsg (fBM isL mPopAt (fVar 4) (aCons (fOp (lift2 gMod) (fOp SL.gIx (fVar 6) (fC (.int 1))) (fCB SL.gLen (aCons (fVar 4) aNil))) aNil)) (gT 3 (gsCons (gN 11) (gsCons (gN 12) (gsCons (gN 13) gsNil)))))
def b__law_tree_3_2_0 : Fs := (sDrop (fBM isL mAppend (fVar 4) (aCons (fTup (aCons (fTup (aCons (fC (.str [110, 111, 116])) (aCons (fVar 11) aNil))) (aCons (fOp (lift2F gAdd) (fC (.str [110, 111, 116, 32])) (fIf (fB (fOp (lift2 gGe) (fVar 13) (fC (.int 5)))) (fVar 12) (fOp (lift2F gAdd) (fOp (lift2F gAdd) (fC (.str [40])) (fVar 12)) (fC (.str [41]))))) (aCons (fC (.int 5)) aNil)))) aNil)))
def b__law_tree_3_2_1 : Fs := (sAsg (fBM0 isL mPop (fVar 4)) (gT 3 (gsCons (gN 11) (gsCons (gN 12) (gsCons (gN 13) gsNil)))))
def b__law_tree_3_2 : Fs := (sIf (fB (fOp (lift2 gEq) (fOp SL.gIx (fVar 6) (fC (.int 2))) (fC (.int 0)))) (sSeq b__law_tree_3_2_0 b__law_tree_3_2_1) sNx)
def b__law_tree_3_3 : Fs := (sAsg (fBM isL mPopAt (fVar 4) (aCons (fC (.int 0)) aNil)) (gT 3 (gsCons (gN 14) (gsCons (gN 15) (gsCons (gN 16) gsNil)))))
def b__law_tree_3_4 : Fs := (sAsg (fOp SL.gIx (fVar 3) (fOp SL.gIx (fVar 6) (fC (.int 0)))) (gN 7))
def b__law_tree_3_5 : Fs := (sAsg (fOp gDGet (fVar 2) (fVar 7)) (gN 8))
def b__law_tree_3_6 : Fs := (sAsg (fIf (fOr (fB (fOp (lift2 gGt) (fVar 13) (fVar 8))) (fAnd (fB (fOp (lift2 gEq) (fVar 13) (fVar 8))) (fB (fOp (lift2 gGt) (fVar 8) (fC (.int 6)))))) (fVar 12) (fOp (lift2F gAdd) (fOp (lift2F gAdd) (fC (.str [40])) (fVar 12)) (fC (.str [41])))) (gN 9))
def b__law_tree_3_7 : Fs := (sAsg (fIf (fOr (fB (fOp (lift2 gGt) (fVar 16) (fVar 8))) (fAnd (fB (fOp (lift2 gEq) (fVar 16) (fVar 8))) (fB (fOp (lift2 gLt) (fVar 8) (fC (.int 6)))))) (fVar 15) (fOp (lift2F gAdd) (fOp (lift2F gAdd) (fC (.str [40])) (fVar 15)) (fC (.str [41])))) (gN 10))
def b__law_tree_3_8 : Fs := (sDrop (fBM isL mAppend (fVar 4) (aCons (fTup (aCons (fTup (aCons (fC (.str [98, 105, 110])) (aCons (fVar 7) (aCons (fVar 11) (aCons (fVar 14) aNil))))) (aCons (fOp (lift2F gAdd) (fOp (lift2F gAdd) (fOp (lift2F gAdd) (fOp (lift2F gAdd) (fVar 9) (fC (.str [32]))) (fVar 7)) (fC (.str [32]))) (fVar 10)) (aCons (fVar 8) aNil)))) aNil)))
def b__law_tree_3 : Fs := (sFor (iR1 (aCons (fOp (lift2 gSub) (fVar 1) (fC (.int 1))) aNil)) (gN 5) (sSeq b__law_tree_3_0 (sSeq b__law_tree_3_1 (sSeq b__law_tree_3_2 (sSeq b__law_tree_3_3 (sSeq b__law_tree_3_4 (sSeq b__law_tree_3_5 (sSeq b__law_tree_3_6 (sSeq b__law_tree_3_7 b__law_tree_3_8)))))))))
def b__law_tree_4 : Fs := (sRet (fTup (aCons (fOp SL.gIx (fOp SL.gIx (fVar 4) (fC (.int 0))) (fC (.int 0))) (aCons (fOp SL.gIx (fOp SL.gIx (fVar 4) (fC (.int 0))) (fC (.int 1))) aNil))))
def b__law_tree : Fs :=
  (sSeq b__law_tree_0 (sSeq b__law_tree_1 (sSeq b__law_tree_2 (sSeq b__law_tree_3 b__law_tree_4))))
def m__law_tree : Fn := iso (defS 2 18 b__law_tree)
set_option maxHeartbeats 4000000 in
theorem ok__law_tree {P : Program} {w : World} {K : PySem.W.Frag} {mg : Str → Option Value} {base : Heap} {T : List Addr} {f : Addr} {fd : FuncData} (F : L2.Fun K "_law_tree" "_law_tree" s__law_tree f fd)
    {a__law_draw : Addr} {fd__law_draw : FuncData} (G__law_draw : FnOk P w K mg base (L2.CX P w) 2 a__law_draw fd__law_draw ["script", "k", "sizes"] (spS ⟨K, T⟩ m__law_draw)) (B__law_draw : Binds K fd__law_draw ["script", "k", "sizes"] [])
    (g__law_draw : mg "_law_draw" = some (.ref a__law_draw)) (K__law_draw : PySem.W.keepIn K (.ref a__law_draw) = true)
    (f_range : mg "range" = none)
    (f_len : mg "len" = none) :
    FnOk P w K mg base (L2.CX P w) 3 f fd ["script", "many"] (spS ⟨K, T⟩ m__law_tree) := by
  refine SL.FnOk.iso (fn_sl F sc__law_tree T b__law_tree rfl rfl ?_)
  intro A outer s H E hr
  have tk : Takes (cxOf (L2.CX P w) P w K mg base N__law_tree "_law_tree" (defScope s__law_tree) f fd.code A outer s H E) (fun c d _ H' => E c d H') := takes_of rfl rfl rfl rfl
  refine ⟨_, (pss_cons (ps_set (i := 2) sc__law_tree.nd rfl (by first | exact .inl rfl | exact .inr rfl) (pe_disp (pps_cons pe_str pe_int (pps_cons pe_str pe_int (pps_cons pe_str pe_int (pps_cons pe_str pe_int (pps_cons pe_str pe_int (pps_cons pe_str pe_int (pps_cons pe_str pe_int (pps_cons pe_str pe_int (pps_cons pe_str pe_int (pps_cons pe_str pe_int pps_nil)))))))))) (by rfl) (by rfl) (by intro z; cases z) (by decide)))
  (pss_cons (ps_set (i := 3) sc__law_tree.nd rfl (by first | exact .inl rfl | exact .inr rfl) (pe_lst (pa_cons pe_str (pa_cons pe_str (pa_cons pe_str (pa_cons pe_str (pa_cons pe_str (pa_cons pe_str (pa_cons pe_str (pa_cons pe_str (pa_cons pe_str (pa_cons pe_str pa_nil))))))))))))
  (pss_cons (ps_setLc (i := 4) (own := [("word", 17)]) (g := gName 17) (tt := tYes) rfl sc__law_tree.nd rfl rfl (sw_true rfl rfl rfl (by decide +kernel)) (pi_list (pe_slice (xsl K) (pe_lst (pa_cons pe_str (pa_cons pe_str (pa_cons pe_str (pa_cons pe_str (pa_cons pe_str pa_nil)))))) po_none (po_some (pv 1)))) (blkOk_by (N := N__law_tree) (sc := defScope s__law_tree) (by decide +kernel)) (fun _ _ _ _ _ => (pg_name (i := 17) sc__law_tree.nd rfl (by first | exact .inl rfl | exact .inr rfl))) (fun _ _ _ _ _ => pts_nil) (fun _ _ _ _ _ => (pe_tup (pa_cons (pe_tup (pa_cons pe_str (pa_cons (pv 17) pa_nil))) (pa_cons (pv 17) (pa_cons pe_int pa_nil))))))
  (pss_cons (ps_for (passes_of rfl) rfl (pi_range1 (by rfl) f_range (pa_cons (pe_op op_sub (pv 1) pe_int) pa_nil)) (pg_name (i := 5) sc__law_tree.nd rfl (by first | exact .inl rfl | exact .inr rfl)) (pss_cons (ps_set (i := 6) sc__law_tree.nd rfl (by first | exact .inl rfl | exact .inr rfl) (pe_callS G__law_draw (hr.mono (by omega)) (by rfl) g__law_draw K__law_draw B__law_draw (fun σ => passAt tk σ) (pa_cons (pv 0) (pa_cons (pe_op (xop_add K) pe_int (pv 5)) (pa_cons (pe_lst (pa_cons pe_int (pa_cons pe_int (pa_cons pe_int pa_nil)))) pa_nil)))))
  (pss_cons (ps_asg (pe_bm PySem.F.plainAttrs_list PySem.F.slot_list_pop PySem.F.type_list_pop mt_popAt (pv 4) (pa_cons (pe_op op_mod (pe_ix (xix K) (pv 6) pe_int (fun _ _ => rfl)) (pe_callB (xlen K) (by rfl) f_len (by decide +kernel) (pa_cons (pv 4) pa_nil))) pa_nil)) (pg_tup rfl (pgs_cons (pg_name (i := 11) sc__law_tree.nd rfl (by first | exact .inl rfl | exact .inr rfl)) (pgs_cons (pg_name (i := 12) sc__law_tree.nd rfl (by first | exact .inl rfl | exact .inr rfl)) (pgs_cons (pg_name (i := 13) sc__law_tree.nd rfl (by first | exact .inl rfl | exact .inr rfl)) pgs_nil)))))
  (pss_cons (ps_if (pt_cmpR (xop_eq K hr) (pe_ix (xix K) (pv 6) pe_int (fun _ _ => rfl)) pe_int (nomark _)) (pss_cons (ps_expr (pe_bm PySem.F.plainAttrs_list PySem.F.slot_list_append PySem.F.type_list_append mt_append (pv 4) (pa_cons (pe_tup (pa_cons (pe_tup (pa_cons pe_str (pa_cons (pv 11) pa_nil))) (pa_cons (pe_op (xop_add K) pe_str (pe_ifExp (pt_cmpR op_ge (pv 13) pe_int (nomark _)) (pv 12) (pe_op (xop_add K) (pe_op (xop_add K) pe_str (pv 12)) pe_str))) (pa_cons pe_int pa_nil)))) pa_nil)))
  (pss_one (ps_asg (pe_bm0 PySem.F.plainAttrs_list PySem.F.slot_list_pop PySem.F.type_list_pop mt_pop (pv 4)) (pg_tup rfl (pgs_cons (pg_name (i := 11) sc__law_tree.nd rfl (by first | exact .inl rfl | exact .inr rfl)) (pgs_cons (pg_name (i := 12) sc__law_tree.nd rfl (by first | exact .inl rfl | exact .inr rfl)) (pgs_cons (pg_name (i := 13) sc__law_tree.nd rfl (by first | exact .inl rfl | exact .inr rfl)) pgs_nil))))))) pss_nil)
  (pss_cons (ps_asg (pe_bm PySem.F.plainAttrs_list PySem.F.slot_list_pop PySem.F.type_list_pop mt_popAt (pv 4) (pa_cons pe_int pa_nil)) (pg_tup rfl (pgs_cons (pg_name (i := 14) sc__law_tree.nd rfl (by first | exact .inl rfl | exact .inr rfl)) (pgs_cons (pg_name (i := 15) sc__law_tree.nd rfl (by first | exact .inl rfl | exact .inr rfl)) (pgs_cons (pg_name (i := 16) sc__law_tree.nd rfl (by first | exact .inl rfl | exact .inr rfl)) pgs_nil)))))
  (pss_cons (ps_set (i := 7) sc__law_tree.nd rfl (by first | exact .inl rfl | exact .inr rfl) (pe_ix (xix K) (pv 3) (pe_ix (xix K) (pv 6) pe_int (fun _ _ => rfl)) (fun _ _ => rfl)))
  (pss_cons (ps_set (i := 8) sc__law_tree.nd rfl (by first | exact .inl rfl | exact .inr rfl) (pe_dget (hu_of hr) (pv 2) (pv 7) (fun _ _ => rfl)))
  (pss_cons (ps_set (i := 9) sc__law_tree.nd rfl (by first | exact .inl rfl | exact .inr rfl) (pe_ifExp (PW.pt (pw_or (pt_cmpR op_gt (pv 13) (pv 8) (nomark _)) (pw_or1 (PW.pt (pw_and (pt_cmpR (xop_eq K hr) (pv 13) (pv 8) (nomark _)) (pw_and1 (pt_cmpR op_gt (pv 8) pe_int (nomark _)))))))) (pv 12) (pe_op (xop_add K) (pe_op (xop_add K) pe_str (pv 12)) pe_str)))
  (pss_cons (ps_set (i := 10) sc__law_tree.nd rfl (by first | exact .inl rfl | exact .inr rfl) (pe_ifExp (PW.pt (pw_or (pt_cmpR op_gt (pv 16) (pv 8) (nomark _)) (pw_or1 (PW.pt (pw_and (pt_cmpR (xop_eq K hr) (pv 16) (pv 8) (nomark _)) (pw_and1 (pt_cmpR op_lt (pv 8) pe_int (nomark _)))))))) (pv 15) (pe_op (xop_add K) (pe_op (xop_add K) pe_str (pv 15)) pe_str)))
  (pss_one (ps_expr (pe_bm PySem.F.plainAttrs_list PySem.F.slot_list_append PySem.F.type_list_append mt_append (pv 4) (pa_cons (pe_tup (pa_cons (pe_tup (pa_cons pe_str (pa_cons (pv 7) (pa_cons (pv 11) (pa_cons (pv 14) pa_nil))))) (pa_cons (pe_op (xop_add K) (pe_op (xop_add K) (pe_op (xop_add K) (pe_op (xop_add K) (pv 9) pe_str) (pv 7)) pe_str) (pv 10)) (pa_cons (pv 8) pa_nil)))) pa_nil)))))))))))))
  (pss_one (ps_ret (pe_tup (pa_cons (pe_ix (xix K) (pe_ix (xix K) (pv 4) pe_int (fun _ _ => rfl)) pe_int (fun _ _ => rfl)) (pa_cons (pe_ix (xix K) (pe_ix (xix K) (pv 4) pe_int (fun _ _ => rfl)) pe_int (fun _ _ => rfl)) pa_nil))))))))), ?_⟩
  unfold b__law_tree
  exact (es_seq (es_asg (ev_disp (epp_cons (ev_c (rv_lit (by rfl))) (ev_c fun _ => .int _) (epp_cons (ev_c (rv_lit (by rfl))) (ev_c fun _ => .int _) (epp_cons (ev_c (rv_lit (by rfl))) (ev_c fun _ => .int _) (epp_cons (ev_c (rv_lit (by rfl))) (ev_c fun _ => .int _) (epp_cons (ev_c (rv_lit (by rfl))) (ev_c fun _ => .int _) (epp_cons (ev_c (rv_lit (by rfl))) (ev_c fun _ => .int _) (epp_cons (ev_c (rv_lit (by rfl))) (ev_c fun _ => .int _) (epp_cons (ev_c (rv_lit (by rfl))) (ev_c fun _ => .int _) (epp_cons (ev_c (rv_lit (by rfl))) (ev_c fun _ => .int _) (epp_cons (ev_c (rv_lit (by rfl))) (ev_c fun _ => .int _) epp_nil))))))))))) eg_name)
  (es_seq (es_asg (ev_lstF (ea_cons (ev_c (rv_lit (by rfl))) (ea_cons (ev_c (rv_lit (by rfl))) (ea_cons (ev_c (rv_lit (by rfl))) (ea_cons (ev_c (rv_lit (by rfl))) (ea_cons (ev_c (rv_lit (by rfl))) (ea_cons (ev_c (rv_lit (by rfl))) (ea_cons (ev_c (rv_lit (by rfl))) (ea_cons (ev_c (rv_lit (by rfl))) (ea_cons (ev_c (rv_lit (by rfl))) (ea_cons (ev_c (rv_lit (by rfl))) ea_nil))))))))))) eg_name)
  (es_seq (es_asg (ev_lc (W1 := fun _ _ _ _ => False) (ei_list (ev_sl (ev_lst (ea_cons (ev_c (rv_lit (by rfl))) (ea_cons (ev_c (rv_lit (by rfl))) (ea_cons (ev_c (rv_lit (by rfl))) (ea_cons (ev_c (rv_lit (by rfl))) (ea_cons (ev_c (rv_lit (by rfl))) ea_nil)))))) eo_none (eo_some (ev_var 1)))) eg_name eb_yes (ev_tup (ea_cons (ev_tup (ea_cons (ev_c (rv_lit (by rfl))) (ea_cons (ev_var 17) ea_nil))) (ea_cons (ev_var 17) (ea_cons (ev_c fun _ => .int _) ea_nil)))) (by decide)) eg_name)
  (es_seq (es_for (ei_r1 (ea_cons (ev_op (ev_var 1) (ev_c fun _ => .int _) r2_sub) ea_nil)) eg_name (es_seq (es_asg (ev_call (ea_cons (ev_var 0) (ea_cons (ev_op (ev_c fun _ => .int _) (ev_var 5) r2_addF) (ea_cons (ev_lstF (ea_cons (ev_c fun _ => .int _) (ea_cons (ev_c fun _ => .int _) (ea_cons (ev_c fun _ => .int _) ea_nil)))) ea_nil)))) eg_name)
  (es_seq (es_asg (ev_bm ty_list (ev_var 4) (ea_cons (ev_op (ev_op (ev_var 6) (ev_c fun _ => .int _) r2_ix) (ev_cb (ea_cons (ev_var 4) ea_nil) SL.rc_len) r2_mod) ea_nil) rm_popAt) (eg_tup (egs_cons eg_name (egs_cons eg_name (egs_cons eg_name egs_nil)))))
  (es_seq (es_if (eb_test (ev_op (ev_op (ev_var 6) (ev_c fun _ => .int _) r2_ix) (ev_c fun _ => .int _) r2_eq)) (es_seq (es_drop (ev_bm ty_list (ev_var 4) (ea_cons (ev_tup (ea_cons (ev_tup (ea_cons (ev_c (rv_lit (by rfl))) (ea_cons (ev_var 11) ea_nil))) (ea_cons (ev_op (ev_c (rv_lit (by rfl))) (ev_if (eb_test (ev_op (ev_var 13) (ev_c fun _ => .int _) r2_ge)) (ev_var 12) (ev_op (ev_op (ev_c (rv_lit (by rfl))) (ev_var 12) r2_addF) (ev_c (rv_lit (by rfl))) r2_addF)) r2_addF) (ea_cons (ev_c fun _ => .int _) ea_nil)))) ea_nil) rm_append))
  (es_asg (ev_bm0 ty_list (ev_var 4) rm_pop) (eg_tup (egs_cons eg_name (egs_cons eg_name (egs_cons eg_name egs_nil)))))) es_nx)
  (es_seq (es_asg (ev_bm ty_list (ev_var 4) (ea_cons (ev_c fun _ => .int _) ea_nil) rm_popAt) (eg_tup (egs_cons eg_name (egs_cons eg_name (egs_cons eg_name egs_nil)))))
  (es_seq (es_asg (ev_op (ev_var 3) (ev_op (ev_var 6) (ev_c fun _ => .int _) r2_ix) r2_ix) eg_name)
  (es_seq (es_asg (ev_dget (ev_var 2) (ev_var 7)) eg_name)
  (es_seq (es_asg (ev_if (eb_or (eb_test (ev_op (ev_var 13) (ev_var 8) r2_gt)) (eb_and (eb_test (ev_op (ev_var 13) (ev_var 8) r2_eq)) (eb_test (ev_op (ev_var 8) (ev_c fun _ => .int _) r2_gt)))) (ev_var 12) (ev_op (ev_op (ev_c (rv_lit (by rfl))) (ev_var 12) r2_addF) (ev_c (rv_lit (by rfl))) r2_addF)) eg_name)
  (es_seq (es_asg (ev_if (eb_or (eb_test (ev_op (ev_var 16) (ev_var 8) r2_gt)) (eb_and (eb_test (ev_op (ev_var 16) (ev_var 8) r2_eq)) (eb_test (ev_op (ev_var 8) (ev_c fun _ => .int _) r2_lt)))) (ev_var 15) (ev_op (ev_op (ev_c (rv_lit (by rfl))) (ev_var 15) r2_addF) (ev_c (rv_lit (by rfl))) r2_addF)) eg_name)
  (es_drop (ev_bm ty_list (ev_var 4) (ea_cons (ev_tup (ea_cons (ev_tup (ea_cons (ev_c (rv_lit (by rfl))) (ea_cons (ev_var 7) (ea_cons (ev_var 11) (ea_cons (ev_var 14) ea_nil))))) (ea_cons (ev_op (ev_op (ev_op (ev_op (ev_var 9) (ev_c (rv_lit (by rfl))) r2_addF) (ev_var 7) r2_addF) (ev_c (rv_lit (by rfl))) r2_addF) (ev_var 10) r2_addF) (ea_cons (ev_var 8) ea_nil)))) ea_nil) rm_append)))))))))))
  (es_ret (ev_tup (ea_cons (ev_op (ev_op (ev_var 4) (ev_c fun _ => .int _) r2_ix) (ev_c fun _ => .int _) r2_ix) (ea_cons (ev_op (ev_op (ev_var 4) (ev_c fun _ => .int _) r2_ix) (ev_c fun _ => .int _) r2_ix) ea_nil))))))))
/-! ### law -/
abbrev s_law : Stmt := topS 27
abbrev N_law : List Str := ["script", "digits", "tree", "text", "a", "b", "p", "told", "shown", "due", "many", "wrong"]
theorem sc_law : FnScope N_law ["script"] (defScope s_law) := ⟨rfl, rfl, rfl, by decide +kernel, rfl, by decide +kernel, by decide +kernel⟩
def b_law_0 : Fs := (sAsg (fCall m__law_draw (aCons (fVar 0) (aCons (fC (.int 0)) (aCons (fLstF (aCons (fC (.int 4)) (aCons (fC (.int 14)) (aCons (fC (.int 12)) aNil)))) aNil)))) (gN 1))
def b_law_1 : Fs := (sAsg (fCall m__law_tree (aCons (fVar 0) (aCons (fOp (lift2F gAdd) (fOp SL.gIx (fVar 1) (fC (.int 0))) (fC (.int 2))) aNil))) (gT 2 (gsCons (gN 2) (gsCons (gN 3) gsNil))))
def b_law_2_0 : Fs := (sRet (fC (.bl false)))
def b_law_2 : Fs := (sIf (fOr (fB (fOp (lift2 gNe) (fCall m_parse_tree (aCons (fCall m_words_of (aCons (fVar 3) aNil)) aNil)) (fVar 2))) (fB (fOp (lift2 gNe) (fCall m_parse_tree (aCons (fCall m_words_of (aCons (fOp (lift2F gAdd) (fOp (lift2F gAdd) (fC (.str [40])) (fVar 3)) (fC (.str [41]))) aNil)) aNil)) (fVar 2)))) b_law_2_0 sNx)
def b_law_3 : Fs := (sAsg (fTup (aCons (fTup (aCons (fC (.str [110, 97, 109, 101])) (aCons (fC (.str [97])) aNil))) (aCons (fTup (aCons (fC (.str [110, 97, 109, 101])) (aCons (fC (.str [98])) aNil))) (aCons (fTup (aCons (fC (.str [110, 97, 109, 101])) (aCons (fC (.str [112])) aNil))) aNil)))) (gT 3 (gsCons (gN 4) (gsCons (gN 5) (gsCons (gN 6) gsNil)))))
def b_law_4 : Fs := (sAsg (fLstF (aCons (fTup (aCons (fC (.str [97, 108, 108, 32, 117, 32, 105, 110, 32, 115, 58, 32, 112, 32, 97, 110, 100, 32, 113])) (aCons (fTup (aCons (fC (.str [101, 97, 99, 104])) (aCons (fC (.str [97, 108, 108])) (aCons (fC .non) (aCons (fC (.str [117])) (aCons (fTup (aCons (fC (.str [110, 97, 109, 101])) (aCons (fC (.str [115])) aNil))) (aCons (fTup (aCons (fC (.str [98, 105, 110])) (aCons (fC (.str [97, 110, 100])) (aCons (fVar 6) (aCons (fTup (aCons (fC (.str [110, 97, 109, 101])) (aCons (fC (.str [113])) aNil))) aNil))))) aNil))))))) aNil))) aNil)) (gN 7))
def b_law_5 : Fs := (sAsg (fOp (lift2F gAdd) (fVar 7) (fLstF (aCons (fTup (aCons (fC (.str [112, 32, 97, 110, 100, 32, 97, 108, 108, 32, 117, 32, 105, 110, 32, 115, 58, 32, 112, 32, 45, 62, 32, 112])) (aCons (fTup (aCons (fC (.str [98, 105, 110])) (aCons (fC (.str [97, 110, 100])) (aCons (fVar 6) (aCons (fTup (aCons (fC (.str [101, 97, 99, 104])) (aCons (fC (.str [97, 108, 108])) (aCons (fC .non) (aCons (fC (.str [117])) (aCons (fTup (aCons (fC (.str [110, 97, 109, 101])) (aCons (fC (.str [115])) aNil))) (aCons (fTup (aCons (fC (.str [98, 105, 110])) (aCons (fC (.str [45, 62])) (aCons (fVar 6) (aCons (fVar 6) aNil))))) aNil))))))) aNil))))) aNil))) aNil))) (gN 7))
def b_law_6 : Fs := (sAsg (fOp (lift2F gAdd) (fVar 7) (fLstF (aCons (fTup (aCons (fC (.str [101, 120, 97, 99, 116, 108, 121, 32, 50, 32, 117, 32, 105, 110, 32, 115, 32, 43, 32, 116, 58, 32, 112])) (aCons (fTup (aCons (fC (.str [101, 97, 99, 104])) (aCons (fC (.str [101, 120, 97, 99, 116, 108, 121])) (aCons (fC (.int 2)) (aCons (fC (.str [117])) (aCons (fTup (aCons (fC (.str [98, 105, 110])) (aCons (fC (.str [43])) (aCons (fTup (aCons (fC (.str [110, 97, 109, 101])) (aCons (fC (.str [115])) aNil))) (aCons (fTup (aCons (fC (.str [110, 97, 109, 101])) (aCons (fC (.str [116])) aNil))) aNil))))) (aCons (fVar 6) aNil))))))) aNil))) aNil))) (gN 7))
def b_law_7 : Fs := (sAsg (fOp (lift2F gAdd) (fVar 7) (fLstF (aCons (fTup (aCons (fC (.str [105, 102, 32, 112, 32, 116, 104, 101, 110, 32, 97, 32, 101, 108, 115, 101, 32, 98, 32, 43, 32, 97])) (aCons (fTup (aCons (fC (.str [105, 102])) (aCons (fVar 6) (aCons (fVar 4) (aCons (fTup (aCons (fC (.str [98, 105, 110])) (aCons (fC (.str [43])) (aCons (fVar 5) (aCons (fVar 4) aNil))))) aNil))))) aNil))) aNil))) (gN 7))
def b_law_8 : Fs := (sAsg (fOp (lift2F gAdd) (fVar 7) (fLstF (aCons (fTup (aCons (fC (.str [45, 32, 97, 32, 42, 32, 98])) (aCons (fTup (aCons (fC (.str [98, 105, 110])) (aCons (fC (.str [42])) (aCons (fTup (aCons (fC (.str [109, 105, 110, 117, 115])) (aCons (fVar 4) aNil))) (aCons (fVar 5) aNil))))) aNil))) (aCons (fTup (aCons (fC (.str [97, 32, 45, 32, 45, 32, 98])) (aCons (fTup (aCons (fC (.str [98, 105, 110])) (aCons (fC (.str [45])) (aCons (fVar 4) (aCons (fTup (aCons (fC (.str [109, 105, 110, 117, 115])) (aCons (fVar 5) aNil))) aNil))))) aNil))) aNil)))) (gN 7))
def b_law_9 : Fs := (sAsg (fOp (lift2F gAdd) (fVar 7) (fLstF (aCons (fTup (aCons (fC (.str [110, 111, 116, 32, 97, 32, 61, 32, 98])) (aCons (fTup (aCons (fC (.str [110, 111, 116])) (aCons (fTup (aCons (fC (.str [98, 105, 110])) (aCons (fC (.str [61])) (aCons (fVar 4) (aCons (fVar 5) aNil))))) aNil))) aNil))) (aCons (fTup (aCons (fC (.str [110, 111, 116, 32, 110, 111, 116, 32, 112])) (aCons (fTup (aCons (fC (.str [110, 111, 116])) (aCons (fTup (aCons (fC (.str [110, 111, 116])) (aCons (fVar 6) aNil))) aNil))) aNil))) aNil)))) (gN 7))
def b_law_10 : Fs := (sAsg (fOp (lift2F gAdd) (fVar 7) (fLstF (aCons (fTup (aCons (fC (.str [101, 100, 103, 101, 40, 97, 44, 32, 98, 44, 32, 112, 41])) (aCons (fTup (aCons (fC (.str [119, 97, 121])) (aCons (fC (.str [101, 100, 103, 101])) (aCons (fTup (aCons (fVar 4) (aCons (fVar 5) (aCons (fVar 6) aNil)))) aNil)))) aNil))) (aCons (fTup (aCons (fC (.str [102, 40, 97, 44, 32, 49, 50, 41])) (aCons (fTup (aCons (fC (.str [99, 97, 108, 108])) (aCons (fC (.str [102])) (aCons (fTup (aCons (fVar 4) (aCons (fTup (aCons (fC (.str [105, 110, 116])) (aCons (fC (.int 12)) aNil))) aNil))) aNil)))) aNil))) aNil)))) (gN 7))
def b_law_11 : Fs := (sAsg (fOp (lift2F gAdd) (fVar 7) (fLstF (aCons (fTup (aCons (fC (.str [123, 97, 44, 32, 98, 125])) (aCons (fTup (aCons (fC (.str [115, 101, 116])) (aCons (fTup (aCons (fVar 4) (aCons (fVar 5) aNil))) aNil))) aNil))) (aCons (fTup (aCons (fC (.str [121, 101, 115, 32, 45, 62, 32, 110, 111])) (aCons (fTup (aCons (fC (.str [98, 105, 110])) (aCons (fC (.str [45, 62])) (aCons (fTup (aCons (fC (.str [121, 101, 115])) aNil)) (aCons (fTup (aCons (fC (.str [110, 111])) aNil)) aNil))))) aNil))) aNil)))) (gN 7))
def b_law_12 : Fs := (sAsg (fOp (lift2F gAdd) (fVar 7) (fLstF (aCons (fTup (aCons (fC (.str [115, 117, 109, 32, 117, 32, 105, 110, 32, 123, 97, 125, 58, 32, 102, 40, 117, 41, 32, 43, 32, 49])) (aCons (fTup (aCons (fC (.str [101, 97, 99, 104])) (aCons (fC (.str [115, 117, 109])) (aCons (fC .non) (aCons (fC (.str [117])) (aCons (fTup (aCons (fC (.str [115, 101, 116])) (aCons (fTup (aCons (fVar 4) aNil)) aNil))) (aCons (fTup (aCons (fC (.str [98, 105, 110])) (aCons (fC (.str [43])) (aCons (fTup (aCons (fC (.str [99, 97, 108, 108])) (aCons (fC (.str [102])) (aCons (fTup (aCons (fTup (aCons (fC (.str [110, 97, 109, 101])) (aCons (fC (.str [117])) aNil))) aNil)) aNil)))) (aCons (fTup (aCons (fC (.str [105, 110, 116])) (aCons (fC (.int 1)) aNil))) aNil))))) aNil))))))) aNil))) aNil))) (gN 7))
def b_law_13 : Fs := (sAsg (fOp (lift2F gAdd) (fVar 7) (fLstF (aCons (fTup (aCons (fC (.str [112, 32, 61, 32, 110, 111, 116, 32, 97])) (aCons (fTup (aCons (fC (.str [98, 105, 110])) (aCons (fC (.str [61])) (aCons (fVar 6) (aCons (fTup (aCons (fC (.str [110, 111, 116])) (aCons (fVar 4) aNil))) aNil))))) aNil))) aNil))) (gN 7))
def b_law_14 : Fs := (sAsg (fOp SL.gIx (fVar 7) (fOp SL.gIx (fVar 1) (fC (.int 1)))) (gT 2 (gsCons (gN 8) (gsCons (gN 9) gsNil))))
def b_law_15_0 : Fs := (sRet (fC (.bl false)))
def b_law_15 : Fs := (sIf (tNot' (fB (fCall m__law_strictly (aCons (fVar 9) (aCons (fCall m_parse_tree (aCons (fCall m_words_of (aCons (fVar 8) aNil)) aNil)) aNil))))) b_law_15_0 sNx)
def b_law_16 : Fs := (sAsg (fV (fAnd (fB (fOp SL.gIs (fCall m_parse_tree (aCons (fCall m_words_of (aCons (fC (.str [101, 120, 97, 99, 116, 108, 121, 32, 49, 48, 49, 32, 117, 32, 105, 110, 32, 115, 58, 32, 112])) aNil)) aNil)) (fC .non))) (fB (fOp SL.gIs (fCall m_parse_tree (aCons (fCall m_words_of (aCons (fC (.str [97, 116, 108, 101, 97, 115, 116, 32, 49, 48, 49, 32, 117, 32, 105, 110, 32, 115, 58, 32, 112])) aNil)) aNil)) (fC .non))))) (gN 10))
def b_law_17 : Fs := (sAsg (fV (fAnd (fB (fVar 10)) (fB (fOp SL.gIsN (fCall m_parse_tree (aCons (fCall m_words_of (aCons (fC (.str [101, 120, 97, 99, 116, 108, 121, 32, 49, 48, 48, 32, 117, 32, 105, 110, 32, 115, 58, 32, 112])) aNil)) aNil)) (fC .non))))) (gN 10))
def b_law_18 : Fs := (sAsg (fOp SL.gIx (fLstF (aCons (fC (.str [97, 32, 61, 32, 98, 32, 61, 32, 97])) (aCons (fC (.str [97, 32, 60])) (aCons (fC (.str [110, 111, 116])) (aCons (fC (.str [40, 97])) (aCons (fC (.str [97, 41])) (aCons (fC (.str [102, 40, 41])) (aCons (fC (.str [101, 100, 103, 101, 40, 97, 44, 32, 98, 41])) (aCons (fC (.str [97, 108, 108, 32, 117, 32, 115, 58, 32, 112])) (aCons (fC (.str [101, 120, 97, 99, 116, 108, 121, 32, 117, 32, 105, 110, 32, 115, 58, 32, 112])) (aCons (fC (.str [105, 102, 32, 112, 32, 116, 104, 101, 110, 32, 97])) (aCons (fC (.str [123, 125])) (aCons (fC (.str [97, 108, 108, 32, 117, 32, 105, 110, 32, 115, 32, 119, 105, 116, 104, 105, 110, 32, 116, 58, 32, 112])) aNil))))))))))))) (fOp SL.gIx (fVar 1) (fC (.int 2)))) (gN 11))
def b_law_19 : Fs := (sRet (fV (fAnd (fB (fOp SL.gIs (fCall m_parse_tree (aCons (fCall m_words_of (aCons (fVar 11) aNil)) aNil)) (fC .non))) (fB (fV (fAnd (fB (fOp SL.gIs (fCall m_parse_tree (aCons (fCall m_words_of (aCons (fC (.str [49, 48, 48, 48])) aNil)) aNil)) (fC .non))) (fB (fV (fAnd (fB (fOp SL.gIs (fCall m_parse_tree (aCons (fCall m_words_of (aCons (fC (.str [97, 116, 109, 111, 115, 116, 32, 49, 48, 48, 32, 117, 32, 105, 110, 32, 115, 58, 32, 112])) aNil)) aNil)) (fC .non))) (fB (fVar 10)))))))))))
def b_law : Fs :=
  (sSeq b_law_0 (sSeq b_law_1 (sSeq b_law_2 (sSeq b_law_3 (sSeq b_law_4 (sSeq b_law_5 (sSeq b_law_6 (sSeq b_law_7 (sSeq b_law_8 (sSeq b_law_9 (sSeq b_law_10 (sSeq b_law_11 (sSeq b_law_12 (sSeq b_law_13 (sSeq b_law_14 (sSeq b_law_15 (sSeq b_law_16 (sSeq b_law_17 (sSeq b_law_18 b_law_19)))))))))))))))))))
def m_law : Fn := defS 1 12 b_law
set_option maxHeartbeats 4000000 in
theorem ok_law {P : Program} {w : World} {K : PySem.W.Frag} {mg : Str → Option Value} {base : Heap} {T : List Addr} {f : Addr} {fd : FuncData} (F : L2.Fun K "law" "law" s_law f fd)
    {a__law_draw : Addr} {fd__law_draw : FuncData} (G__law_draw : FnOk P w K mg base (L2.CX P w) 2 a__law_draw fd__law_draw ["script", "k", "sizes"] (spS ⟨K, T⟩ m__law_draw)) (B__law_draw : Binds K fd__law_draw ["script", "k", "sizes"] [])
    (g__law_draw : mg "_law_draw" = some (.ref a__law_draw)) (K__law_draw : PySem.W.keepIn K (.ref a__law_draw) = true)
    {a__law_tree : Addr} {fd__law_tree : FuncData} (G__law_tree : FnOk P w K mg base (L2.CX P w) 3 a__law_tree fd__law_tree ["script", "many"] (spS ⟨K, T⟩ m__law_tree)) (B__law_tree : Binds K fd__law_tree ["script", "many"] [])
    (g__law_tree : mg "_law_tree" = some (.ref a__law_tree)) (K__law_tree : PySem.W.keepIn K (.ref a__law_tree) = true)
    {a_parse_tree : Addr} {fd_parse_tree : FuncData} (G_parse_tree : FnOk P w K mg base (L2.CX P w) 65 a_parse_tree fd_parse_tree ["words"] (spS ⟨K, T⟩ m_parse_tree)) (B_parse_tree : Binds K fd_parse_tree ["words"] [])
    (g_parse_tree : mg "parse_tree" = some (.ref a_parse_tree)) (K_parse_tree : PySem.W.keepIn K (.ref a_parse_tree) = true)
    {a_words_of : Addr} {fd_words_of : FuncData} (G_words_of : FnOk P w K mg base (L2.CX P w) 3 a_words_of fd_words_of ["line"] (spS ⟨K, T⟩ m_words_of)) (B_words_of : Binds K fd_words_of ["line"] [])
    (g_words_of : mg "words_of" = some (.ref a_words_of)) (K_words_of : PySem.W.keepIn K (.ref a_words_of) = true)
    {a__law_strictly : Addr} {fd__law_strictly : FuncData} (G__law_strictly : FnOk P w K mg base (L2.CX P w) 61 a__law_strictly fd__law_strictly ["expected", "actual"] (spS ⟨K, T⟩ m__law_strictly)) (B__law_strictly : Binds K fd__law_strictly ["expected", "actual"] [])
    (g__law_strictly : mg "_law_strictly" = some (.ref a__law_strictly)) (K__law_strictly : PySem.W.keepIn K (.ref a__law_strictly) = true) :
    FnOk P w K mg base (L2.CX P w) 66 f fd ["script"] (spS ⟨K, T⟩ m_law) := by
  refine fn_sl F sc_law T b_law rfl rfl ?_
  intro A outer s H E hr
  have tk : Takes (cxOf (L2.CX P w) P w K mg base N_law "law" (defScope s_law) f fd.code A outer s H E) (fun c d _ H' => E c d H') := takes_of rfl rfl rfl rfl
  refine ⟨_, (pss_cons (ps_set (i := 1) sc_law.nd rfl (by first | exact .inl rfl | exact .inr rfl) (pe_callS G__law_draw (hr.mono (by omega)) (by rfl) g__law_draw K__law_draw B__law_draw (fun σ => passAt tk σ) (pa_cons (pv 0) (pa_cons pe_int (pa_cons (pe_lst (pa_cons pe_int (pa_cons pe_int (pa_cons pe_int pa_nil)))) pa_nil)))))
  (pss_cons (ps_asg (pe_callS G__law_tree (hr.mono (by omega)) (by rfl) g__law_tree K__law_tree B__law_tree (fun σ => passAt tk σ) (pa_cons (pv 0) (pa_cons (pe_op (xop_add K) (pe_ix (xix K) (pv 1) pe_int (fun _ _ => rfl)) pe_int) pa_nil))) (pg_tup rfl (pgs_cons (pg_name (i := 2) sc_law.nd rfl (by first | exact .inl rfl | exact .inr rfl)) (pgs_cons (pg_name (i := 3) sc_law.nd rfl (by first | exact .inl rfl | exact .inr rfl)) pgs_nil))))
  (pss_cons (ps_if (PW.pt (pw_or (pt_cmpR (xop_ne K hr) (pe_callS G_parse_tree (hr.mono (by omega)) (by rfl) g_parse_tree K_parse_tree B_parse_tree (fun σ => passAt tk σ) (pa_cons (pe_callS G_words_of (hr.mono (by omega)) (by rfl) g_words_of K_words_of B_words_of (fun σ => passAt tk σ) (pa_cons (pv 3) pa_nil)) pa_nil)) (pv 2) (nomark _)) (pw_or1 (pt_cmpR (xop_ne K hr) (pe_callS G_parse_tree (hr.mono (by omega)) (by rfl) g_parse_tree K_parse_tree B_parse_tree (fun σ => passAt tk σ) (pa_cons (pe_callS G_words_of (hr.mono (by omega)) (by rfl) g_words_of K_words_of B_words_of (fun σ => passAt tk σ) (pa_cons (pe_op (xop_add K) (pe_op (xop_add K) pe_str (pv 3)) pe_str) pa_nil)) pa_nil)) (pv 2) (nomark _))))) (pss_one (ps_ret pe_bl)) pss_nil)
  (pss_cons (ps_asg (pe_tup (pa_cons (pe_tup (pa_cons pe_str (pa_cons pe_str pa_nil))) (pa_cons (pe_tup (pa_cons pe_str (pa_cons pe_str pa_nil))) (pa_cons (pe_tup (pa_cons pe_str (pa_cons pe_str pa_nil))) pa_nil)))) (pg_tup rfl (pgs_cons (pg_name (i := 4) sc_law.nd rfl (by first | exact .inl rfl | exact .inr rfl)) (pgs_cons (pg_name (i := 5) sc_law.nd rfl (by first | exact .inl rfl | exact .inr rfl)) (pgs_cons (pg_name (i := 6) sc_law.nd rfl (by first | exact .inl rfl | exact .inr rfl)) pgs_nil)))))
  (pss_cons (ps_set (i := 7) sc_law.nd rfl (by first | exact .inl rfl | exact .inr rfl) (pe_lst (pa_cons (pe_tup (pa_cons pe_str (pa_cons (pe_tup (pa_cons pe_str (pa_cons pe_str (pa_cons pe_non (pa_cons pe_str (pa_cons (pe_tup (pa_cons pe_str (pa_cons pe_str pa_nil))) (pa_cons (pe_tup (pa_cons pe_str (pa_cons pe_str (pa_cons (pv 6) (pa_cons (pe_tup (pa_cons pe_str (pa_cons pe_str pa_nil))) pa_nil))))) pa_nil))))))) pa_nil))) pa_nil)))
  (pss_cons (ps_set (i := 7) sc_law.nd rfl (by first | exact .inl rfl | exact .inr rfl) (pe_op (xop_add K) (pv 7) (pe_lst (pa_cons (pe_tup (pa_cons pe_str (pa_cons (pe_tup (pa_cons pe_str (pa_cons pe_str (pa_cons (pv 6) (pa_cons (pe_tup (pa_cons pe_str (pa_cons pe_str (pa_cons pe_non (pa_cons pe_str (pa_cons (pe_tup (pa_cons pe_str (pa_cons pe_str pa_nil))) (pa_cons (pe_tup (pa_cons pe_str (pa_cons pe_str (pa_cons (pv 6) (pa_cons (pv 6) pa_nil))))) pa_nil))))))) pa_nil))))) pa_nil))) pa_nil))))
  (pss_cons (ps_set (i := 7) sc_law.nd rfl (by first | exact .inl rfl | exact .inr rfl) (pe_op (xop_add K) (pv 7) (pe_lst (pa_cons (pe_tup (pa_cons pe_str (pa_cons (pe_tup (pa_cons pe_str (pa_cons pe_str (pa_cons pe_int (pa_cons pe_str (pa_cons (pe_tup (pa_cons pe_str (pa_cons pe_str (pa_cons (pe_tup (pa_cons pe_str (pa_cons pe_str pa_nil))) (pa_cons (pe_tup (pa_cons pe_str (pa_cons pe_str pa_nil))) pa_nil))))) (pa_cons (pv 6) pa_nil))))))) pa_nil))) pa_nil))))
  (pss_cons (ps_set (i := 7) sc_law.nd rfl (by first | exact .inl rfl | exact .inr rfl) (pe_op (xop_add K) (pv 7) (pe_lst (pa_cons (pe_tup (pa_cons pe_str (pa_cons (pe_tup (pa_cons pe_str (pa_cons (pv 6) (pa_cons (pv 4) (pa_cons (pe_tup (pa_cons pe_str (pa_cons pe_str (pa_cons (pv 5) (pa_cons (pv 4) pa_nil))))) pa_nil))))) pa_nil))) pa_nil))))
  (pss_cons (ps_set (i := 7) sc_law.nd rfl (by first | exact .inl rfl | exact .inr rfl) (pe_op (xop_add K) (pv 7) (pe_lst (pa_cons (pe_tup (pa_cons pe_str (pa_cons (pe_tup (pa_cons pe_str (pa_cons pe_str (pa_cons (pe_tup (pa_cons pe_str (pa_cons (pv 4) pa_nil))) (pa_cons (pv 5) pa_nil))))) pa_nil))) (pa_cons (pe_tup (pa_cons pe_str (pa_cons (pe_tup (pa_cons pe_str (pa_cons pe_str (pa_cons (pv 4) (pa_cons (pe_tup (pa_cons pe_str (pa_cons (pv 5) pa_nil))) pa_nil))))) pa_nil))) pa_nil)))))
  (pss_cons (ps_set (i := 7) sc_law.nd rfl (by first | exact .inl rfl | exact .inr rfl) (pe_op (xop_add K) (pv 7) (pe_lst (pa_cons (pe_tup (pa_cons pe_str (pa_cons (pe_tup (pa_cons pe_str (pa_cons (pe_tup (pa_cons pe_str (pa_cons pe_str (pa_cons (pv 4) (pa_cons (pv 5) pa_nil))))) pa_nil))) pa_nil))) (pa_cons (pe_tup (pa_cons pe_str (pa_cons (pe_tup (pa_cons pe_str (pa_cons (pe_tup (pa_cons pe_str (pa_cons (pv 6) pa_nil))) pa_nil))) pa_nil))) pa_nil)))))
  (pss_cons (ps_set (i := 7) sc_law.nd rfl (by first | exact .inl rfl | exact .inr rfl) (pe_op (xop_add K) (pv 7) (pe_lst (pa_cons (pe_tup (pa_cons pe_str (pa_cons (pe_tup (pa_cons pe_str (pa_cons pe_str (pa_cons (pe_tup (pa_cons (pv 4) (pa_cons (pv 5) (pa_cons (pv 6) pa_nil)))) pa_nil)))) pa_nil))) (pa_cons (pe_tup (pa_cons pe_str (pa_cons (pe_tup (pa_cons pe_str (pa_cons pe_str (pa_cons (pe_tup (pa_cons (pv 4) (pa_cons (pe_tup (pa_cons pe_str (pa_cons pe_int pa_nil))) pa_nil))) pa_nil)))) pa_nil))) pa_nil)))))
  (pss_cons (ps_set (i := 7) sc_law.nd rfl (by first | exact .inl rfl | exact .inr rfl) (pe_op (xop_add K) (pv 7) (pe_lst (pa_cons (pe_tup (pa_cons pe_str (pa_cons (pe_tup (pa_cons pe_str (pa_cons (pe_tup (pa_cons (pv 4) (pa_cons (pv 5) pa_nil))) pa_nil))) pa_nil))) (pa_cons (pe_tup (pa_cons pe_str (pa_cons (pe_tup (pa_cons pe_str (pa_cons pe_str (pa_cons (pe_tup (pa_cons pe_str pa_nil)) (pa_cons (pe_tup (pa_cons pe_str pa_nil)) pa_nil))))) pa_nil))) pa_nil)))))
  (pss_cons (ps_set (i := 7) sc_law.nd rfl (by first | exact .inl rfl | exact .inr rfl) (pe_op (xop_add K) (pv 7) (pe_lst (pa_cons (pe_tup (pa_cons pe_str (pa_cons (pe_tup (pa_cons pe_str (pa_cons pe_str (pa_cons pe_non (pa_cons pe_str (pa_cons (pe_tup (pa_cons pe_str (pa_cons (pe_tup (pa_cons (pv 4) pa_nil)) pa_nil))) (pa_cons (pe_tup (pa_cons pe_str (pa_cons pe_str (pa_cons (pe_tup (pa_cons pe_str (pa_cons pe_str (pa_cons (pe_tup (pa_cons (pe_tup (pa_cons pe_str (pa_cons pe_str pa_nil))) pa_nil)) pa_nil)))) (pa_cons (pe_tup (pa_cons pe_str (pa_cons pe_int pa_nil))) pa_nil))))) pa_nil))))))) pa_nil))) pa_nil))))
  (pss_cons (ps_set (i := 7) sc_law.nd rfl (by first | exact .inl rfl | exact .inr rfl) (pe_op (xop_add K) (pv 7) (pe_lst (pa_cons (pe_tup (pa_cons pe_str (pa_cons (pe_tup (pa_cons pe_str (pa_cons pe_str (pa_cons (pv 6) (pa_cons (pe_tup (pa_cons pe_str (pa_cons (pv 4) pa_nil))) pa_nil))))) pa_nil))) pa_nil))))
  (pss_cons (ps_asg (pe_ix (xix K) (pv 7) (pe_ix (xix K) (pv 1) pe_int (fun _ _ => rfl)) (fun _ _ => rfl)) (pg_tup rfl (pgs_cons (pg_name (i := 8) sc_law.nd rfl (by first | exact .inl rfl | exact .inr rfl)) (pgs_cons (pg_name (i := 9) sc_law.nd rfl (by first | exact .inl rfl | exact .inr rfl)) pgs_nil))))
  (pss_cons (ps_if (pt_not (pt_val (pe_callS G__law_strictly (hr.mono (by omega)) (by rfl) g__law_strictly K__law_strictly B__law_strictly (fun σ => passAt tk σ) (pa_cons (pv 9) (pa_cons (pe_callS G_parse_tree (hr.mono (by omega)) (by rfl) g_parse_tree K_parse_tree B_parse_tree (fun σ => passAt tk σ) (pa_cons (pe_callS G_words_of (hr.mono (by omega)) (by rfl) g_words_of K_words_of B_words_of (fun σ => passAt tk σ) (pa_cons (pv 8) pa_nil)) pa_nil)) pa_nil))))) (pss_one (ps_ret pe_bl)) pss_nil)
  (pss_cons (ps_set (i := 10) sc_law.nd rfl (by first | exact .inl rfl | exact .inr rfl) (pe_and (pe_cmpR op_isN1 (pe_callS G_parse_tree (hr.mono (by omega)) (by rfl) g_parse_tree K_parse_tree B_parse_tree (fun σ => passAt tk σ) (pa_cons (pe_callS G_words_of (hr.mono (by omega)) (by rfl) g_words_of K_words_of B_words_of (fun σ => passAt tk σ) (pa_cons pe_str pa_nil)) pa_nil)) pe_non (nomark _)) (pe_one (pe_cmpR op_isN1 (pe_callS G_parse_tree (hr.mono (by omega)) (by rfl) g_parse_tree K_parse_tree B_parse_tree (fun σ => passAt tk σ) (pa_cons (pe_callS G_words_of (hr.mono (by omega)) (by rfl) g_words_of K_words_of B_words_of (fun σ => passAt tk σ) (pa_cons pe_str pa_nil)) pa_nil)) pe_non (nomark _)))))
  (pss_cons (ps_set (i := 10) sc_law.nd rfl (by first | exact .inl rfl | exact .inr rfl) (pe_and (pv 10) (pe_one (pe_cmpR op_notN1 (pe_callS G_parse_tree (hr.mono (by omega)) (by rfl) g_parse_tree K_parse_tree B_parse_tree (fun σ => passAt tk σ) (pa_cons (pe_callS G_words_of (hr.mono (by omega)) (by rfl) g_words_of K_words_of B_words_of (fun σ => passAt tk σ) (pa_cons pe_str pa_nil)) pa_nil)) pe_non (nomark _)))))
  (pss_cons (ps_set (i := 11) sc_law.nd rfl (by first | exact .inl rfl | exact .inr rfl) (pe_ix (xix K) (pe_lst (pa_cons pe_str (pa_cons pe_str (pa_cons pe_str (pa_cons pe_str (pa_cons pe_str (pa_cons pe_str (pa_cons pe_str (pa_cons pe_str (pa_cons pe_str (pa_cons pe_str (pa_cons pe_str (pa_cons pe_str pa_nil))))))))))))) (pe_ix (xix K) (pv 1) pe_int (fun _ _ => rfl)) (fun _ _ => rfl)))
  (pss_one (ps_ret (pe_and (pe_cmpR op_isN1 (pe_callS G_parse_tree (hr.mono (by omega)) (by rfl) g_parse_tree K_parse_tree B_parse_tree (fun σ => passAt tk σ) (pa_cons (pe_callS G_words_of (hr.mono (by omega)) (by rfl) g_words_of K_words_of B_words_of (fun σ => passAt tk σ) (pa_cons (pv 11) pa_nil)) pa_nil)) pe_non (nomark _)) (pe_and (pe_cmpR op_isN1 (pe_callS G_parse_tree (hr.mono (by omega)) (by rfl) g_parse_tree K_parse_tree B_parse_tree (fun σ => passAt tk σ) (pa_cons (pe_callS G_words_of (hr.mono (by omega)) (by rfl) g_words_of K_words_of B_words_of (fun σ => passAt tk σ) (pa_cons pe_str pa_nil)) pa_nil)) pe_non (nomark _)) (pe_and (pe_cmpR op_isN1 (pe_callS G_parse_tree (hr.mono (by omega)) (by rfl) g_parse_tree K_parse_tree B_parse_tree (fun σ => passAt tk σ) (pa_cons (pe_callS G_words_of (hr.mono (by omega)) (by rfl) g_words_of K_words_of B_words_of (fun σ => passAt tk σ) (pa_cons pe_str pa_nil)) pa_nil)) pe_non (nomark _)) (pe_one (pv 10)))))))))))))))))))))))))), ?_⟩
  unfold b_law
  exact (es_seq (es_asg (ev_call (ea_cons (ev_var 0) (ea_cons (ev_c fun _ => .int _) (ea_cons (ev_lstF (ea_cons (ev_c fun _ => .int _) (ea_cons (ev_c fun _ => .int _) (ea_cons (ev_c fun _ => .int _) ea_nil)))) ea_nil)))) eg_name)
  (es_seq (es_asg (ev_call (ea_cons (ev_var 0) (ea_cons (ev_op (ev_op (ev_var 1) (ev_c fun _ => .int _) r2_ix) (ev_c fun _ => .int _) r2_addF) ea_nil))) (eg_tup (egs_cons eg_name (egs_cons eg_name egs_nil))))
  (es_seq (es_if (eb_or (eb_test (ev_op (ev_call (ea_cons (ev_call (ea_cons (ev_var 3) ea_nil)) ea_nil)) (ev_var 2) r2_ne)) (eb_test (ev_op (ev_call (ea_cons (ev_call (ea_cons (ev_op (ev_op (ev_c (rv_lit (by rfl))) (ev_var 3) r2_addF) (ev_c (rv_lit (by rfl))) r2_addF) ea_nil)) ea_nil)) (ev_var 2) r2_ne))) (es_ret (ev_c fun _ => .bl _)) es_nx)
  (es_seq (es_asg (ev_tup (ea_cons (ev_tup (ea_cons (ev_c (rv_lit (by rfl))) (ea_cons (ev_c (rv_lit (by rfl))) ea_nil))) (ea_cons (ev_tup (ea_cons (ev_c (rv_lit (by rfl))) (ea_cons (ev_c (rv_lit (by rfl))) ea_nil))) (ea_cons (ev_tup (ea_cons (ev_c (rv_lit (by rfl))) (ea_cons (ev_c (rv_lit (by rfl))) ea_nil))) ea_nil)))) (eg_tup (egs_cons eg_name (egs_cons eg_name (egs_cons eg_name egs_nil)))))
  (es_seq (es_asg (ev_lstF (ea_cons (ev_tup (ea_cons (ev_c (rv_lit (by rfl))) (ea_cons (ev_tup (ea_cons (ev_c (rv_lit (by rfl))) (ea_cons (ev_c (rv_lit (by rfl))) (ea_cons (ev_c fun _ => .non) (ea_cons (ev_c (rv_lit (by rfl))) (ea_cons (ev_tup (ea_cons (ev_c (rv_lit (by rfl))) (ea_cons (ev_c (rv_lit (by rfl))) ea_nil))) (ea_cons (ev_tup (ea_cons (ev_c (rv_lit (by rfl))) (ea_cons (ev_c (rv_lit (by rfl))) (ea_cons (ev_var 6) (ea_cons (ev_tup (ea_cons (ev_c (rv_lit (by rfl))) (ea_cons (ev_c (rv_lit (by rfl))) ea_nil))) ea_nil))))) ea_nil))))))) ea_nil))) ea_nil)) eg_name)
  (es_seq (es_asg (ev_op (ev_var 7) (ev_lstF (ea_cons (ev_tup (ea_cons (ev_c (rv_lit (by rfl))) (ea_cons (ev_tup (ea_cons (ev_c (rv_lit (by rfl))) (ea_cons (ev_c (rv_lit (by rfl))) (ea_cons (ev_var 6) (ea_cons (ev_tup (ea_cons (ev_c (rv_lit (by rfl))) (ea_cons (ev_c (rv_lit (by rfl))) (ea_cons (ev_c fun _ => .non) (ea_cons (ev_c (rv_lit (by rfl))) (ea_cons (ev_tup (ea_cons (ev_c (rv_lit (by rfl))) (ea_cons (ev_c (rv_lit (by rfl))) ea_nil))) (ea_cons (ev_tup (ea_cons (ev_c (rv_lit (by rfl))) (ea_cons (ev_c (rv_lit (by rfl))) (ea_cons (ev_var 6) (ea_cons (ev_var 6) ea_nil))))) ea_nil))))))) ea_nil))))) ea_nil))) ea_nil)) r2_addF) eg_name)
  (es_seq (es_asg (ev_op (ev_var 7) (ev_lstF (ea_cons (ev_tup (ea_cons (ev_c (rv_lit (by rfl))) (ea_cons (ev_tup (ea_cons (ev_c (rv_lit (by rfl))) (ea_cons (ev_c (rv_lit (by rfl))) (ea_cons (ev_c fun _ => .int _) (ea_cons (ev_c (rv_lit (by rfl))) (ea_cons (ev_tup (ea_cons (ev_c (rv_lit (by rfl))) (ea_cons (ev_c (rv_lit (by rfl))) (ea_cons (ev_tup (ea_cons (ev_c (rv_lit (by rfl))) (ea_cons (ev_c (rv_lit (by rfl))) ea_nil))) (ea_cons (ev_tup (ea_cons (ev_c (rv_lit (by rfl))) (ea_cons (ev_c (rv_lit (by rfl))) ea_nil))) ea_nil))))) (ea_cons (ev_var 6) ea_nil))))))) ea_nil))) ea_nil)) r2_addF) eg_name)
  (es_seq (es_asg (ev_op (ev_var 7) (ev_lstF (ea_cons (ev_tup (ea_cons (ev_c (rv_lit (by rfl))) (ea_cons (ev_tup (ea_cons (ev_c (rv_lit (by rfl))) (ea_cons (ev_var 6) (ea_cons (ev_var 4) (ea_cons (ev_tup (ea_cons (ev_c (rv_lit (by rfl))) (ea_cons (ev_c (rv_lit (by rfl))) (ea_cons (ev_var 5) (ea_cons (ev_var 4) ea_nil))))) ea_nil))))) ea_nil))) ea_nil)) r2_addF) eg_name)
  (es_seq (es_asg (ev_op (ev_var 7) (ev_lstF (ea_cons (ev_tup (ea_cons (ev_c (rv_lit (by rfl))) (ea_cons (ev_tup (ea_cons (ev_c (rv_lit (by rfl))) (ea_cons (ev_c (rv_lit (by rfl))) (ea_cons (ev_tup (ea_cons (ev_c (rv_lit (by rfl))) (ea_cons (ev_var 4) ea_nil))) (ea_cons (ev_var 5) ea_nil))))) ea_nil))) (ea_cons (ev_tup (ea_cons (ev_c (rv_lit (by rfl))) (ea_cons (ev_tup (ea_cons (ev_c (rv_lit (by rfl))) (ea_cons (ev_c (rv_lit (by rfl))) (ea_cons (ev_var 4) (ea_cons (ev_tup (ea_cons (ev_c (rv_lit (by rfl))) (ea_cons (ev_var 5) ea_nil))) ea_nil))))) ea_nil))) ea_nil))) r2_addF) eg_name)
  (es_seq (es_asg (ev_op (ev_var 7) (ev_lstF (ea_cons (ev_tup (ea_cons (ev_c (rv_lit (by rfl))) (ea_cons (ev_tup (ea_cons (ev_c (rv_lit (by rfl))) (ea_cons (ev_tup (ea_cons (ev_c (rv_lit (by rfl))) (ea_cons (ev_c (rv_lit (by rfl))) (ea_cons (ev_var 4) (ea_cons (ev_var 5) ea_nil))))) ea_nil))) ea_nil))) (ea_cons (ev_tup (ea_cons (ev_c (rv_lit (by rfl))) (ea_cons (ev_tup (ea_cons (ev_c (rv_lit (by rfl))) (ea_cons (ev_tup (ea_cons (ev_c (rv_lit (by rfl))) (ea_cons (ev_var 6) ea_nil))) ea_nil))) ea_nil))) ea_nil))) r2_addF) eg_name)
  (es_seq (es_asg (ev_op (ev_var 7) (ev_lstF (ea_cons (ev_tup (ea_cons (ev_c (rv_lit (by rfl))) (ea_cons (ev_tup (ea_cons (ev_c (rv_lit (by rfl))) (ea_cons (ev_c (rv_lit (by rfl))) (ea_cons (ev_tup (ea_cons (ev_var 4) (ea_cons (ev_var 5) (ea_cons (ev_var 6) ea_nil)))) ea_nil)))) ea_nil))) (ea_cons (ev_tup (ea_cons (ev_c (rv_lit (by rfl))) (ea_cons (ev_tup (ea_cons (ev_c (rv_lit (by rfl))) (ea_cons (ev_c (rv_lit (by rfl))) (ea_cons (ev_tup (ea_cons (ev_var 4) (ea_cons (ev_tup (ea_cons (ev_c (rv_lit (by rfl))) (ea_cons (ev_c fun _ => .int _) ea_nil))) ea_nil))) ea_nil)))) ea_nil))) ea_nil))) r2_addF) eg_name)
  (es_seq (es_asg (ev_op (ev_var 7) (ev_lstF (ea_cons (ev_tup (ea_cons (ev_c (rv_lit (by rfl))) (ea_cons (ev_tup (ea_cons (ev_c (rv_lit (by rfl))) (ea_cons (ev_tup (ea_cons (ev_var 4) (ea_cons (ev_var 5) ea_nil))) ea_nil))) ea_nil))) (ea_cons (ev_tup (ea_cons (ev_c (rv_lit (by rfl))) (ea_cons (ev_tup (ea_cons (ev_c (rv_lit (by rfl))) (ea_cons (ev_c (rv_lit (by rfl))) (ea_cons (ev_tup (ea_cons (ev_c (rv_lit (by rfl))) ea_nil)) (ea_cons (ev_tup (ea_cons (ev_c (rv_lit (by rfl))) ea_nil)) ea_nil))))) ea_nil))) ea_nil))) r2_addF) eg_name)
  (es_seq (es_asg (ev_op (ev_var 7) (ev_lstF (ea_cons (ev_tup (ea_cons (ev_c (rv_lit (by rfl))) (ea_cons (ev_tup (ea_cons (ev_c (rv_lit (by rfl))) (ea_cons (ev_c (rv_lit (by rfl))) (ea_cons (ev_c fun _ => .non) (ea_cons (ev_c (rv_lit (by rfl))) (ea_cons (ev_tup (ea_cons (ev_c (rv_lit (by rfl))) (ea_cons (ev_tup (ea_cons (ev_var 4) ea_nil)) ea_nil))) (ea_cons (ev_tup (ea_cons (ev_c (rv_lit (by rfl))) (ea_cons (ev_c (rv_lit (by rfl))) (ea_cons (ev_tup (ea_cons (ev_c (rv_lit (by rfl))) (ea_cons (ev_c (rv_lit (by rfl))) (ea_cons (ev_tup (ea_cons (ev_tup (ea_cons (ev_c (rv_lit (by rfl))) (ea_cons (ev_c (rv_lit (by rfl))) ea_nil))) ea_nil)) ea_nil)))) (ea_cons (ev_tup (ea_cons (ev_c (rv_lit (by rfl))) (ea_cons (ev_c fun _ => .int _) ea_nil))) ea_nil))))) ea_nil))))))) ea_nil))) ea_nil)) r2_addF) eg_name)
  (es_seq (es_asg (ev_op (ev_var 7) (ev_lstF (ea_cons (ev_tup (ea_cons (ev_c (rv_lit (by rfl))) (ea_cons (ev_tup (ea_cons (ev_c (rv_lit (by rfl))) (ea_cons (ev_c (rv_lit (by rfl))) (ea_cons (ev_var 6) (ea_cons (ev_tup (ea_cons (ev_c (rv_lit (by rfl))) (ea_cons (ev_var 4) ea_nil))) ea_nil))))) ea_nil))) ea_nil)) r2_addF) eg_name)
  (es_seq (es_asg (ev_op (ev_var 7) (ev_op (ev_var 1) (ev_c fun _ => .int _) r2_ix) r2_ix) (eg_tup (egs_cons eg_name (egs_cons eg_name egs_nil))))
  (es_seq (es_if (eb_not (eb_val (ev_call (ea_cons (ev_var 9) (ea_cons (ev_call (ea_cons (ev_call (ea_cons (ev_var 8) ea_nil)) ea_nil)) ea_nil))))) (es_ret (ev_c fun _ => .bl _)) es_nx)
  (es_seq (es_asg (ev_andV (ev_op (ev_call (ea_cons (ev_call (ea_cons (ev_c (rv_lit (by rfl))) ea_nil)) ea_nil)) (ev_c fun _ => .non) r2_is) (ev_op (ev_call (ea_cons (ev_call (ea_cons (ev_c (rv_lit (by rfl))) ea_nil)) ea_nil)) (ev_c fun _ => .non) r2_is)) eg_name)
  (es_seq (es_asg (ev_andV (ev_var 10) (ev_op (ev_call (ea_cons (ev_call (ea_cons (ev_c (rv_lit (by rfl))) ea_nil)) ea_nil)) (ev_c fun _ => .non) r2_isn)) eg_name)
  (es_seq (es_asg (ev_op (ev_lstF (ea_cons (ev_c (rv_lit (by rfl))) (ea_cons (ev_c (rv_lit (by rfl))) (ea_cons (ev_c (rv_lit (by rfl))) (ea_cons (ev_c (rv_lit (by rfl))) (ea_cons (ev_c (rv_lit (by rfl))) (ea_cons (ev_c (rv_lit (by rfl))) (ea_cons (ev_c (rv_lit (by rfl))) (ea_cons (ev_c (rv_lit (by rfl))) (ea_cons (ev_c (rv_lit (by rfl))) (ea_cons (ev_c (rv_lit (by rfl))) (ea_cons (ev_c (rv_lit (by rfl))) (ea_cons (ev_c (rv_lit (by rfl))) ea_nil))))))))))))) (ev_op (ev_var 1) (ev_c fun _ => .int _) r2_ix) r2_ix) eg_name)
  (es_ret (ev_andV (ev_op (ev_call (ea_cons (ev_call (ea_cons (ev_var 11) ea_nil)) ea_nil)) (ev_c fun _ => .non) r2_is) (ev_andV (ev_op (ev_call (ea_cons (ev_call (ea_cons (ev_c (rv_lit (by rfl))) ea_nil)) ea_nil)) (ev_c fun _ => .non) r2_is) (ev_andV (ev_op (ev_call (ea_cons (ev_call (ea_cons (ev_c (rv_lit (by rfl))) ea_nil)) ea_nil)) (ev_c fun _ => .non) r2_is) (ev_var 10))))))))))))))))))))))))
end SL.K06
set_option Elab.async false
set_option linter.all false
set_option maxRecDepth 100000
namespace SL.K06
open PySem DL
abbrev Wd := List Nat
def names5 : List Wd := [[97], [98], [99], [100], [107]]
def marks10 : List Wd := [[60, 45, 62], [45, 62], [111, 114], [97, 110, 100], [61], [60], [105, 110], [43], [45], [42]]
def voc : List Wd := [[], [110, 111, 116], [40], [41]] ++ (names5 ++ marks10)
/-- the store: one Reading at a place of its words -/
def RS (ws : List Wd) (k : Nat) : Sto := [.ins "Reading" [("words", .fz (ws.map .str)), ("at", .int (k : Nat))]]
def wd (ws : List Wd) (k : Nat) : Wd := (ws[k]?).getD []
structure Okx (ws : List Wd) : Prop where
  len : ws.length < 10000
  voc : ∀ w ∈ ws, w ∈ voc
theorem Okx.wd {ws : List Wd} (h : Okx ws) (k : Nat) : SL.K06.wd ws k ∈ SL.K06.voc := by
  unfold SL.K06.wd
  cases e : ws[k]? with
  | none => exact List.mem_append_left _ (by simp)
  | some w => exact h.voc w (List.mem_of_getElem? e)
theorem vshp : ∀ w ∈ voc, (Dt.str w).shp = true := by decide
theorem lk_w {α : Type} {x y : α} : List.lookup ("words" : Str) [(("words" : Str), x), (("at" : Str), y)] = some x := rfl
theorem lk_a {α : Type} {x y : α} : List.lookup ("at" : Str) [(("words" : Str), x), (("at" : Str), y)] = some y := rfl
theorem fld_w {ws : List Wd} {k : Nat} {env : SEnv} : fUn (gFldC clss "words") (fVar 0) (some (.ref 0) :: env) (RS ws k) = .ok (.fz (ws.map .str)) (RS ws k) := rfl
theorem fld_a {ws : List Wd} {k : Nat} {env : SEnv} : fUn (gFldC clss "at") (fVar 0) (some (.ref 0) :: env) (RS ws k) = .ok (.int (k : Nat)) (RS ws k) := rfl
theorem word_at {ws : List Wd} (k : Nat) : m_Reading_word [.ref 0] (RS ws k) = .ok (.str (wd ws k)) (RS ws k) := by
  show runS b_Reading_word_0 [some (.ref 0)] (RS ws k) = _
  have c : fB (fOp (lift2 gLt) (fUn (gFldC clss "at") (fVar 0)) (fCB SL.gLen (aCons (fUn (gFldC clss "words") (fVar 0)) aNil))) [some (.ref 0)] (RS ws k) = .ok (decide ((k : Int) < (ws.length : Nat))) (RS ws k) := by
    simp only [fB, fOp, fld_a, fCB, aCons, fld_w, aNil, Rs.bind, SL.gLen, lift2, toDt, gLt, gIB, upR, ofDt, List.length_map]
  unfold runS b_Reading_word_0 sRet fIf
  rw [c]
  simp only [Rs.bind]
  by_cases h : k < ws.length
  · have h1 : decide ((k : Int) < (ws.length : Nat)) = true := by simpa using h
    simp only [h1, if_true, fOp, fld_a, fld_w, Rs.bind, SL.gIx]
    simp [atN, h, wd, Rs.out]
  · have h1 : decide ((k : Int) < (ws.length : Nat)) = false := by simpa using h
    simp [h1, fC, Rs.out, wd, h]
/-- a method of the Reading -/
theorem fm {m : Str} {f : Fn} {g : Fa} {env : SEnv} {ws : List Wd} {k : Nat} (h1 : (m == "words") = false) (h2 : (m == "at") = false) : fMeth "Reading" m f (fVar 0) g (some (.ref 0) :: env) (RS ws k) = (g (some (.ref 0) :: env) (RS ws k)).bind fun xs S2 => f (.ref 0 :: xs) S2 := by
  simp [fMeth, fVar, Rs.bind, RS, List.lookup, h1, h2]
theorem fm_word {env : SEnv} {ws : List Wd} {k : Nat} : fMeth "Reading" "word" m_Reading_word (fVar 0) aNil (some (.ref 0) :: env) (RS ws k) = .ok (.str (wd ws k)) (RS ws k) := by
  rw [fm (by decide) (by decide)]
  exact word_at k
theorem aug_at {env : SEnv} {ws : List Wd} {k : Nat} : SL.sFldAug clss "at" (lift2 (gI fun i j => i + j)) (fVar 0) (fC (.int 1)) (some (.ref 0) :: env) (RS ws k) = .nx (some (.ref 0) :: env) (RS ws (k + 1)) := by kernel_rfl
theorem takes_yes {ws : List Wd} {k : Nat} {w : Wd} (h : wd ws k = w) (hw : w ∈ voc) : m_Reading_takes [.ref 0, .str w] (RS ws k) = .ok (.bl true) (RS ws (k + 1)) := by
  have hs := vshp w hw
  have e1 : b_Reading_takes_0 [some (.ref 0), some (.str w)] (RS ws k) = .nx [some (.ref 0), some (.str w)] (RS ws k) := by
    unfold b_Reading_takes_0 sIf fB fOp
    rw [fm_word, h]
    simp [Rs.bind, Rs.out, fVar, lift2, toDt, upR, gNe, hs, eqD, ofDt, sNx]
  have e2 : b_Reading_takes_1 [some (.ref 0), some (.str w)] (RS ws k) = .nx [some (.ref 0), some (.str w)] (RS ws (k + 1)) := aug_at
  simp [m_Reading_takes, defS, entS, runS, b_Reading_takes, sSeq, e1, e2, b_Reading_takes_2, sRet, fC, Rs.out]
theorem takes_no {ws : List Wd} {k : Nat} {w : Wd} (h : wd ws k ≠ w) (hw : w ∈ voc) (hv : wd ws k ∈ voc) : m_Reading_takes [.ref 0, .str w] (RS ws k) = .ok (.bl false) (RS ws k) := by
  have hs := vshp w hw
  have hs2 := vshp _ hv
  have e1 : b_Reading_takes_0 [some (.ref 0), some (.str w)] (RS ws k) = .rt (.bl false) (RS ws k) := by
    unfold b_Reading_takes_0 sIf fB fOp
    rw [fm_word]
    simp [Rs.bind, Rs.out, fVar, lift2, toDt, upR, gNe, hs, hs2, eqD, ofDt, h, b_Reading_takes_0_0, sRet, fC]
  simp [m_Reading_takes, defS, entS, runS, b_Reading_takes, sSeq, e1]
/-! ### what begins a tree -/
theorem first0 (M : Ms_Reading_tree) {ws : List Wd} {k : Nat} : b_Reading_first_0 M [some (.ref 0), none, none, none] (RS ws k) = .nx [some (.ref 0), some (.str (wd ws k)), none, none] (RS ws k) := by
  unfold b_Reading_first_0 sAsg
  rw [fm_word]
  rfl
theorem first7_no (M : Ms_Reading_tree) {ws : List Wd} {k : Nat} {env : SEnv} (h : wd ws k ≠ [40]) (hv : wd ws k ∈ voc) : b_Reading_first_7 M (some (.ref 0) :: env) (RS ws k) = .nx (some (.ref 0) :: env) (RS ws k) := by
  unfold b_Reading_first_7 sIf fB
  rw [fm (by decide) (by decide)]
  have e : (aCons (fC (.str [40])) aNil) (some (.ref 0) :: env) (RS ws k) = .ok [.str [40]] (RS ws k) := rfl
  rw [e]
  simp only [Rs.bind]
  rw [takes_no h (by decide) hv]
  rfl
theorem skip_name (M : Ms_Reading_tree) (S : Sto) : ∀ w ∈ names5, b_Reading_first_1 M [some (.ref 0), some (.str w), none, none] S = .nx [some (.ref 0), some (.str w), none, none] S ∧ b_Reading_first_2 M [some (.ref 0), some (.str w), none, none] S = .nx [some (.ref 0), some (.str w), none, none] S ∧ b_Reading_first_3 M [some (.ref 0), some (.str w), none, none] S = .nx [some (.ref 0), some (.str w), none, none] S ∧ b_Reading_first_4 M [some (.ref 0), some (.str w), none, none] S = .nx [some (.ref 0), some (.str w), none, none] S ∧ b_Reading_first_5 M [some (.ref 0), some (.str w), none, none] S = .nx [some (.ref 0), some (.str w), none, none] S ∧ b_Reading_first_6 M [some (.ref 0), some (.str w), none, none] S = .nx [some (.ref 0), some (.str w), none, none] S := by
  intro w hw
  simp only [names5, List.mem_cons, List.not_mem_nil, or_false] at hw
  rcases hw with rfl | rfl | rfl | rfl | rfl <;> exact ⟨by kernel_rfl, by kernel_rfl, by kernel_rfl, by kernel_rfl, by kernel_rfl, by kernel_rfl⟩
theorem skip_br (M : Ms_Reading_tree) (S : Sto) : b_Reading_first_1 M [some (.ref 0), some (.str [40]), none, none] S = .nx [some (.ref 0), some (.str [40]), none, none] S ∧ b_Reading_first_2 M [some (.ref 0), some (.str [40]), none, none] S = .nx [some (.ref 0), some (.str [40]), none, none] S ∧ b_Reading_first_3 M [some (.ref 0), some (.str [40]), none, none] S = .nx [some (.ref 0), some (.str [40]), none, none] S ∧ b_Reading_first_4 M [some (.ref 0), some (.str [40]), none, none] S = .nx [some (.ref 0), some (.str [40]), none, none] S ∧ b_Reading_first_5 M [some (.ref 0), some (.str [40]), none, none] S = .nx [some (.ref 0), some (.str [40]), none, none] S ∧ b_Reading_first_6 M [some (.ref 0), some (.str [40]), none, none] S = .nx [some (.ref 0), some (.str [40]), none, none] S :=
  ⟨by kernel_rfl, by kernel_rfl, by kernel_rfl, by kernel_rfl, by kernel_rfl, by kernel_rfl⟩
theorem name_voc : ∀ w ∈ names5, w ∈ voc ∧ w ≠ [40] := by decide
theorem plain123 (M : Ms_Reading_tree) (S : Sto) : ∀ w ∈ names5, b_Reading_plain_1 M [some (.ref 0), some (.str w), none] S = .nx [some (.ref 0), some (.str w), none] S ∧ b_Reading_plain_2 M [some (.ref 0), some (.str w), none] S = .nx [some (.ref 0), some (.str w), none] S ∧ b_Reading_plain_3 M [some (.ref 0), some (.str w), none] S = .nx [some (.ref 0), some (.str w), none] S := by
  intro w hw
  simp only [names5, List.mem_cons, List.not_mem_nil, or_false] at hw
  rcases hw with rfl | rfl | rfl | rfl | rfl <;> exact ⟨by kernel_rfl, by kernel_rfl, by kernel_rfl⟩
def nmV (w : Wd) : Vl := .tup [.str [110, 97, 109, 101], .str w]
theorem plain_name {n : Nat} {ws : List Wd} {k : Nat} {w : Wd} (hn : w ∈ names5) (hv : wd ws (k + 1) ∈ voc) (hb : wd ws (k + 1) ≠ [40]) : (ms_Reading_tree (n + 1)).f_Reading_plain [.ref 0, .str w] (RS ws k) = .ok (nmV w) (RS ws (k + 1)) := by
  have e0 : b_Reading_plain_0 (ms_Reading_tree n) [some (.ref 0), some (.str w), none] (RS ws k) = .nx [some (.ref 0), some (.str w), none] (RS ws (k + 1)) := aug_at
  obtain ⟨e1, e2, e3⟩ := plain123 (ms_Reading_tree n) (RS ws (k + 1)) w hn
  have hs := vshp _ hv
  have hs2 : (Dt.str [40]).shp = true := by decide
  have e4 : b_Reading_plain_4 (ms_Reading_tree n) [some (.ref 0), some (.str w), none] (RS ws (k + 1)) = .rt (nmV w) (RS ws (k + 1)) := by
    unfold b_Reading_plain_4 sIf fB fOp
    rw [fm_word]
    simp only [Rs.bind, Rs.out, fC, lift2, toDt, gNe, hs, hs2, eqD, Bool.and_self, if_true, upR, ofDt]
    have hb' : (wd ws (k + 1) == [40]) = false := by simpa using hb
    rw [hb']
    rfl
  show runS (b_Reading_plain (ms_Reading_tree n)) [some (.ref 0), some (.str w), none] (RS ws k) = _
  unfold runS b_Reading_plain
  simp only [sSeq, e0, e1, e2, e3, e4]
theorem first_name {n : Nat} {ws : List Wd} {k : Nat} (hn : wd ws k ∈ names5) (hv : wd ws (k + 1) ∈ voc) (hb : wd ws (k + 1) ≠ [40]) : (ms_Reading_tree (n + 2)).f_Reading_first [.ref 0] (RS ws k) = .ok (nmV (wd ws k)) (RS ws (k + 1)) := by
  have hq := name_voc _ hn
  obtain ⟨e1, e2, e3, e4, e5, e6⟩ := skip_name (ms_Reading_tree (n + 1)) (RS ws k) _ hn
  have e7 := first7_no (ms_Reading_tree (n + 1)) (env := [some (.str (wd ws k)), none, none]) hq.2 hq.1
  have e8 : b_Reading_first_8 (ms_Reading_tree (n + 1)) [some (.ref 0), some (.str (wd ws k)), none, none] (RS ws k) = .rt (nmV (wd ws k)) (RS ws (k + 1)) := by
    unfold b_Reading_first_8 sRet
    rw [fm (by decide) (by decide)]
    have e : (aCons (fVar 1) aNil) [some (.ref 0), some (.str (wd ws k)), none, none] (RS ws k) = .ok [.str (wd ws k)] (RS ws k) := rfl
    rw [e]
    simp only [Rs.bind]
    rw [plain_name hn hv hb]
    rfl
  show runS (b_Reading_first (ms_Reading_tree (n + 1))) [some (.ref 0), none, none, none] (RS ws k) = _
  unfold runS b_Reading_first
  simp only [sSeq, first0, e1, e2, e3, e4, e5, e6, e7, e8]
theorem first_not {n : Nat} {ws : List Wd} {k k2 : Nat} {t : Vl} (hn : wd ws k = [110, 111, 116]) (ht : isN t = false) (hT : (ms_Reading_tree n).f_Reading_tree [.ref 0, .int 5] (RS ws (k + 1)) = .ok t (RS ws k2)) : (ms_Reading_tree (n + 2)).f_Reading_first [.ref 0] (RS ws k) = .ok (.tup [.str [110, 111, 116], t]) (RS ws k2) := by
  have hbh : (ms_Reading_tree (n + 1)).f_Reading_behind [.ref 0, .str [110, 111, 116], .int 5] (RS ws (k + 1)) = .ok (.tup [.str [110, 111, 116], t]) (RS ws k2) := by
    have e0 : b_Reading_behind_0 (ms_Reading_tree n) [some (.ref 0), some (.str [110, 111, 116]), some (.int 5), none] (RS ws (k + 1)) = .nx [some (.ref 0), some (.str [110, 111, 116]), some (.int 5), some t] (RS ws k2) := by
      unfold b_Reading_behind_0 sAsg
      rw [fm (by decide) (by decide)]
      have e : (aCons (fVar 2) aNil) [some (.ref 0), some (.str [110, 111, 116]), some (.int 5), none] (RS ws (k + 1)) = .ok [.int 5] (RS ws (k + 1)) := rfl
      rw [e]
      simp only [Rs.bind]
      rw [hT]
      rfl
    have e1 : b_Reading_behind_1 (ms_Reading_tree n) [some (.ref 0), some (.str [110, 111, 116]), some (.int 5), some t] (RS ws k2) = .rt (.tup [.str [110, 111, 116], t]) (RS ws k2) := by
      cases t <;> first | rfl | cases ht
    show runS (b_Reading_behind (ms_Reading_tree n)) [some (.ref 0), some (.str [110, 111, 116]), some (.int 5), none] (RS ws (k + 1)) = _
    unfold runS b_Reading_behind
    simp only [sSeq, e0, e1]
  have e1 : b_Reading_first_1 (ms_Reading_tree (n + 1)) [some (.ref 0), some (.str [110, 111, 116]), none, none] (RS ws k) = .rt (.tup [.str [110, 111, 116], t]) (RS ws k2) := by
    have c : fB (fOp (lift2 gEq) (fVar 1) (fC (.str [110, 111, 116]))) [some (.ref 0), some (.str [110, 111, 116]), none, none] (RS ws k) = .ok true (RS ws k) := by kernel_rfl
    have a : b_Reading_first_1_0 (ms_Reading_tree (n + 1)) [some (.ref 0), some (.str [110, 111, 116]), none, none] (RS ws k) = .nx [some (.ref 0), some (.str [110, 111, 116]), none, none] (RS ws (k + 1)) := aug_at
    have d : b_Reading_first_1_1 (ms_Reading_tree (n + 1)) [some (.ref 0), some (.str [110, 111, 116]), none, none] (RS ws (k + 1)) = .rt (.tup [.str [110, 111, 116], t]) (RS ws k2) := by
      unfold b_Reading_first_1_1 sRet
      rw [fm (by decide) (by decide)]
      have e : (aCons (fC (.str [110, 111, 116])) (aCons (fC (.int 5)) aNil)) [some (.ref 0), some (.str [110, 111, 116]), none, none] (RS ws (k + 1)) = .ok [.str [110, 111, 116], .int 5] (RS ws (k + 1)) := rfl
      rw [e]
      simp only [Rs.bind]
      rw [hbh]
      rfl
    unfold b_Reading_first_1 sIf
    rw [c]
    simp only [Rs.out, if_true, sSeq, a, d]
  show runS (b_Reading_first (ms_Reading_tree (n + 1))) [some (.ref 0), none, none, none] (RS ws k) = _
  unfold runS b_Reading_first
  simp only [sSeq, first0, hn, e1]
theorem first_br {n : Nat} {ws : List Wd} {k k2 : Nat} {t : Vl} (hn : wd ws k = [40]) (ht : isN t = false) (hT : (ms_Reading_tree n).f_Reading_tree [.ref 0, .int 0] (RS ws (k + 1)) = .ok t (RS ws k2)) (h2 : wd ws k2 = [41]) : (ms_Reading_tree (n + 1)).f_Reading_first [.ref 0] (RS ws k) = .ok t (RS ws (k2 + 1)) := by
  obtain ⟨e1, e2, e3, e4, e5, e6⟩ := skip_br (ms_Reading_tree n) (RS ws k)
  have e7 : b_Reading_first_7 (ms_Reading_tree n) [some (.ref 0), some (.str [40]), none, none] (RS ws k) = .rt t (RS ws (k2 + 1)) := by
    have c : fB (fMeth "Reading" "takes" m_Reading_takes (fVar 0) (aCons (fC (.str [40])) aNil)) [some (.ref 0), some (.str [40]), none, none] (RS ws k) = .ok true (RS ws (k + 1)) := by
      unfold fB
      rw [fm (by decide) (by decide)]
      have e : (aCons (fC (.str [40])) aNil) [some (.ref 0), some (.str [40]), none, none] (RS ws k) = .ok [.str [40]] (RS ws k) := rfl
      rw [e]
      simp only [Rs.bind]
      rw [takes_yes hn (by decide)]
    have a : b_Reading_first_7_0 (ms_Reading_tree n) [some (.ref 0), some (.str [40]), none, none] (RS ws (k + 1)) = .nx [some (.ref 0), some (.str [40]), none, some t] (RS ws k2) := by
      unfold b_Reading_first_7_0 sAsg
      rw [fm (by decide) (by decide)]
      have e : (aCons (fC (.int 0)) aNil) [some (.ref 0), some (.str [40]), none, none] (RS ws (k + 1)) = .ok [.int 0] (RS ws (k + 1)) := rfl
      rw [e]
      simp only [Rs.bind]
      rw [hT]
      rfl
    have d : b_Reading_first_7_1 (ms_Reading_tree n) [some (.ref 0), some (.str [40]), none, some t] (RS ws k2) = .rt t (RS ws (k2 + 1)) := by
      have c1 : fB (fOp SL.gIsN (fVar 3) (fC .non)) [some (.ref 0), some (.str [40]), none, some t] (RS ws k2) = .ok true (RS ws k2) := by
        cases t <;> first | rfl | cases ht
      have c2 : fB (fMeth "Reading" "takes" m_Reading_takes (fVar 0) (aCons (fC (.str [41])) aNil)) [some (.ref 0), some (.str [40]), none, some t] (RS ws k2) = .ok true (RS ws (k2 + 1)) := by
        unfold fB
        rw [fm (by decide) (by decide)]
        have e : (aCons (fC (.str [41])) aNil) [some (.ref 0), some (.str [40]), none, some t] (RS ws k2) = .ok [.str [41]] (RS ws k2) := rfl
        rw [e]
        simp only [Rs.bind]
        rw [takes_yes h2 (by decide)]
      unfold b_Reading_first_7_1 sRet fIf fAnd
      rw [c1]
      simp only [Rs.bind, if_true, c2]
      rfl
    unfold b_Reading_first_7 sIf
    rw [c]
    simp only [Rs.out, if_true, sSeq, a, d]
  show runS (b_Reading_first (ms_Reading_tree n)) [some (.ref 0), none, none, none] (RS ws k) = _
  unfold runS b_Reading_first
  simp only [sSeq, first0, hn, e1, e2, e3, e4, e5, e6, e7]
end SL.K06
set_option Elab.async false
set_option linter.all false
set_option maxRecDepth 100000
namespace SL.K06
open PySem DL
/-- how closely a word binds -/
def pwv (w : Wd) : Vl := match kd_POWER.lookup w with
  | some e => e
  | none => .int 0
def pw (w : Wd) : Int := match pwv w with
  | .int i => i
  | _ => 0
theorem pwv_voc : ∀ w ∈ voc, pwv w = .int (pw w) := by
  intro w hw
  simp only [voc, names5, marks10, List.cons_append, List.nil_append, List.mem_cons, List.not_mem_nil, or_false] at hw
  rcases hw with rfl | rfl | rfl | rfl | rfl | rfl | rfl | rfl | rfl | rfl | rfl | rfl | rfl | rfl | rfl | rfl | rfl | rfl | rfl <;> kernel_rfl
def mx (p : Int) : Int := if (1 : Int) > p then 1 else p
def qw (w : Wd) : Int := if pw w < 6 then pw w else pw w + 1
abbrev E6 (p : Int) (l m o r : Option Vl) : SEnv := [some (.ref 0), some (.int p), l, m, o, r]
def condT : Ft := fAnd (fB (fOp SL.gIsN (fVar 2) (fC .non))) (fB (fOp (lift2 gGe) (fKGet2 kd_POWER (fMeth "Reading" "word" m_Reading_word (fVar 0) aNil) (fC (.int 0))) (fCB (liftC gMx2) (aCons (fVar 1) (aCons (fC (.int 1)) aNil)))))
def bodyT (M : Ms_Reading_tree) : Fs := sSeq (b_Reading_tree_1_0 M) (sSeq (b_Reading_tree_1_1 M) (sSeq (b_Reading_tree_1_2 M) (sSeq (b_Reading_tree_1_3 M) (sSeq (b_Reading_tree_1_4 M) (b_Reading_tree_1_5 M)))))
theorem kget {env : SEnv} {ws : List Wd} {k : Nat} : fKGet2 kd_POWER (fMeth "Reading" "word" m_Reading_word (fVar 0) aNil) (fC (.int 0)) (some (.ref 0) :: env) (RS ws k) = .ok (pwv (wd ws k)) (RS ws k) := by
  unfold fKGet2
  rw [fm_word]
  simp only [Rs.bind, fC, pwv]
  cases kd_POWER.lookup (wd ws k) <;> rfl
theorem cond_at {ws : List Wd} {k : Nat} {p : Int} {t : Vl} {m o r : Option Vl} (ht : isN t = false) (hv : wd ws k ∈ voc) : condT (E6 p (some t) m o r) (RS ws k) = .ok (decide (mx p ≤ pw (wd ws k))) (RS ws k) := by
  have h1 : fB (fOp SL.gIsN (fVar 2) (fC .non)) (E6 p (some t) m o r) (RS ws k) = .ok true (RS ws k) := by
    cases t <;> first | rfl | cases ht
  unfold condT fAnd
  rw [h1]
  simp only [Rs.bind, if_true]
  unfold fB fOp
  rw [kget, pwv_voc _ hv]
  rfl
theorem body_at {M : Ms_Reading_tree} {ws : List Wd} {k k2 : Nat} {p : Int} {t u : Vl} {m o r : Option Vl} (hm : wd ws k ∈ marks10) (hu : isN u = false) (hT : M.f_Reading_tree [.ref 0, .int (qw (wd ws k))] (RS ws (k + 1)) = .ok u (RS ws k2)) (hv : wd ws k2 ∈ voc) (h6 : pw (wd ws k) = 6 → pw (wd ws k2) < 6) :
    bodyT M (E6 p (some t) m o r) (RS ws k) = .nx (E6 p (some (.tup [.str [98, 105, 110], .str (wd ws k), t, u])) (some (.str (wd ws k))) (some (.int (pw (wd ws k)))) (some u)) (RS ws k2) := by
  have e0 : b_Reading_tree_1_0 M (E6 p (some t) m o r) (RS ws k) = .nx (E6 p (some t) (some (.str (wd ws k))) o r) (RS ws k) := by
    unfold b_Reading_tree_1_0 sAsg
    rw [fm_word]
    rfl
  have e1 : ∀ S : Sto, b_Reading_tree_1_1 M (E6 p (some t) (some (.str (wd ws k))) o r) S = .nx (E6 p (some t) (some (.str (wd ws k))) (some (.int (pw (wd ws k)))) r) S := by
    generalize wd ws k = w at hm
    intro S
    simp only [marks10, List.mem_cons, List.not_mem_nil, or_false] at hm
    rcases hm with rfl | rfl | rfl | rfl | rfl | rfl | rfl | rfl | rfl | rfl <;> kernel_rfl
  have e2 : ∀ env : SEnv, b_Reading_tree_1_2 M (some (.ref 0) :: env) (RS ws k) = .nx (some (.ref 0) :: env) (RS ws (k + 1)) := fun _ => aug_at
  have e3a : ∀ S : Sto, (aCons (fIf (fB (fOp (lift2 gIn) (fVar 3) (fC d_RIGHT))) (fVar 4) (fOp gAddS (fVar 4) (fC (.int 1)))) aNil) (E6 p (some t) (some (.str (wd ws k))) (some (.int (pw (wd ws k)))) r) S = .ok [.int (qw (wd ws k))] S := by
    generalize wd ws k = w at hm
    intro S
    simp only [marks10, List.mem_cons, List.not_mem_nil, or_false] at hm
    rcases hm with rfl | rfl | rfl | rfl | rfl | rfl | rfl | rfl | rfl | rfl <;> kernel_rfl
  have e3 : b_Reading_tree_1_3 M (E6 p (some t) (some (.str (wd ws k))) (some (.int (pw (wd ws k)))) r) (RS ws (k + 1)) = .nx (E6 p (some t) (some (.str (wd ws k))) (some (.int (pw (wd ws k)))) (some u)) (RS ws k2) := by
    unfold b_Reading_tree_1_3 sAsg
    rw [fm (by decide) (by decide), e3a]
    simp only [Rs.bind]
    rw [hT]
    rfl
  have e4 : b_Reading_tree_1_4 M (E6 p (some t) (some (.str (wd ws k))) (some (.int (pw (wd ws k)))) (some u)) (RS ws k2) = .nx (E6 p (some (.tup [.str [98, 105, 110], .str (wd ws k), t, u])) (some (.str (wd ws k))) (some (.int (pw (wd ws k)))) (some u)) (RS ws k2) := by
    cases u <;> first | rfl | cases hu
  have e5 : ∀ l : Option Vl, b_Reading_tree_1_5 M (E6 p l (some (.str (wd ws k))) (some (.int (pw (wd ws k)))) (some u)) (RS ws k2) = .nx (E6 p l (some (.str (wd ws k))) (some (.int (pw (wd ws k)))) (some u)) (RS ws k2) := by
    intro l
    have c : fB (fOp (lift2 gEq) (fVar 4) (fC (.int 6))) (E6 p l (some (.str (wd ws k))) (some (.int (pw (wd ws k)))) (some u)) (RS ws k2) = .ok (pw (wd ws k) == 6) (RS ws k2) := rfl
    unfold b_Reading_tree_1_5 sIf fAnd
    rw [c]
    by_cases h : pw (wd ws k) = 6
    · have hb : (pw (wd ws k) == 6) = true := by rw [h]; rfl
      rw [hb]
      simp only [Rs.bind, if_true]
      have c2 : fB (fOp (lift2 gEq) (fKGet2 kd_POWER (fMeth "Reading" "word" m_Reading_word (fVar 0) aNil) (fC (.int 0))) (fC (.int 6))) (E6 p l (some (.str (wd ws k))) (some (.int (pw (wd ws k)))) (some u)) (RS ws k2) = .ok (pw (wd ws k2) == 6) (RS ws k2) := by
        unfold fB fOp
        rw [kget, pwv_voc _ hv]
        rfl
      rw [c2]
      have hb2 : (pw (wd ws k2) == 6) = false := by
        rw [beq_eq_false_iff_ne]
        have := h6 h
        omega
      rw [hb2]
      rfl
    · have hb : (pw (wd ws k) == 6) = false := by rw [beq_eq_false_iff_ne]; exact h
      rw [hb]
      rfl
  unfold bodyT
  simp only [sSeq, e0, e1, e2, e3, e4, e5]
def Loop (M : Ms_Reading_tree) (f : Nat) (p : Int) (t : Vl) (x y z : Option Vl) (ws : List Wd) (k : Nat) : Out := whF condT (bodyT M) f (E6 p (some t) x y z) (RS ws k)
theorem loop_stop {M : Ms_Reading_tree} {f : Nat} {p : Int} {t : Vl} {x y z : Option Vl} {ws : List Wd} {k : Nat} (ht : isN t = false) (hv : wd ws k ∈ voc) (h : pw (wd ws k) < mx p) : Loop M (f + 1) p t x y z ws k = .nx (E6 p (some t) x y z) (RS ws k) := by
  unfold Loop
  rw [whF, cond_at ht hv]
  have : decide (mx p ≤ pw (wd ws k)) = false := by simpa using h
  rw [this]
  rfl
theorem loop_step {M : Ms_Reading_tree} {f : Nat} {p : Int} {t u : Vl} {x y z : Option Vl} {ws : List Wd} {k k2 : Nat} (ht : isN t = false) (hm : wd ws k ∈ marks10) (hk : wd ws k ∈ voc) (hp : mx p ≤ pw (wd ws k)) (hu : isN u = false)
    (hT : M.f_Reading_tree [.ref 0, .int (qw (wd ws k))] (RS ws (k + 1)) = .ok u (RS ws k2)) (hv : wd ws k2 ∈ voc) (h6 : pw (wd ws k) = 6 → pw (wd ws k2) < 6) :
    Loop M (f + 1) p t x y z ws k = Loop M f p (.tup [.str [98, 105, 110], .str (wd ws k), t, u]) (some (.str (wd ws k))) (some (.int (pw (wd ws k)))) (some u) ws k2 := by
  unfold Loop
  rw [whF, cond_at ht hk, decide_eq_true hp]
  simp only [Rs.out, if_true]
  rw [body_at hm hu hT hv h6]
/-! ### what is read -/
def hdw (post : List Wd) : Wd := post.headD []
def bb (c : Int) : Int := if c = 7 then 8 else if c = 8 then 9 else c
theorem wd_app (pre post : List Wd) (w : Wd) : wd (pre ++ w :: post) pre.length = w := by simp [wd]
theorem wd_post (pre W post : List Wd) : wd (pre ++ (W ++ post)) (pre.length + W.length) = hdw post := by
  unfold wd
  rw [List.getElem?_append_right (by omega), Nat.add_sub_cancel_left, List.getElem?_append_right (by omega), Nat.sub_self]
  cases post <;> rfl
/-- the words W are read to the tree t, which binds as closely as c -/
def Reads (D : Nat) (t : Vl) (W : List Wd) (c : Int) : Prop := ∀ (n : Nat) (pre post : List Wd) (p : Int), D ≤ n → Okx (pre ++ (W ++ post)) → p ≤ c → pw (hdw post) < bb c → hdw post ≠ [40] →
  ∃ (t0 : Vl) (k0 : Nat), (ms_Reading_tree n).f_Reading_first [.ref 0] (RS (pre ++ (W ++ post)) pre.length) = .ok t0 (RS (pre ++ (W ++ post)) k0) ∧ isN t0 = false ∧
    ∀ (f : Nat) (x y z : Option Vl), W.length ≤ f → ∃ (f' : Nat) (x' y' z' : Option Vl), f ≤ f' + W.length ∧
      Loop (ms_Reading_tree n) f p t0 x y z (pre ++ (W ++ post)) k0 = Loop (ms_Reading_tree n) f' p t x' y' z' (pre ++ (W ++ post)) (pre.length + W.length)
theorem tree_of {D : Nat} {t : Vl} {W : List Wd} {c : Int} (R : Reads D t W c) (ht : isN t = false) {n : Nat} {pre post : List Wd} {p : Int} (hD : D ≤ n) (ho : Okx (pre ++ (W ++ post))) (hp : p ≤ c) (h1 : pw (hdw post) < bb c) (h2 : pw (hdw post) < mx p) (h3 : hdw post ≠ [40]) :
    (ms_Reading_tree (n + 1)).f_Reading_tree [.ref 0, .int p] (RS (pre ++ (W ++ post)) pre.length) = .ok t (RS (pre ++ (W ++ post)) (pre.length + W.length)) := by
  obtain ⟨t0, k0, e0, ht0, L⟩ := R n pre post p hD ho hp h1 h3
  have hl := ho.len
  simp only [List.length_append] at hl
  obtain ⟨f', x', y', z', hf, eL⟩ := L 1000000 none none none (by omega)
  obtain ⟨f2, rfl⟩ : ∃ f2, f' = f2 + 1 := ⟨f' - 1, by omega⟩
  have hw := wd_post pre W post
  rw [loop_stop ht (ho.wd _) (by rw [hw]; exact h2)] at eL
  have a0 : b_Reading_tree_0 (ms_Reading_tree n) (E6 p none none none none) (RS (pre ++ (W ++ post)) pre.length) = .nx (E6 p (some t0) none none none) (RS (pre ++ (W ++ post)) k0) := by
    unfold b_Reading_tree_0 sAsg
    rw [fm (by decide) (by decide)]
    have e : aNil (E6 p none none none none) (RS (pre ++ (W ++ post)) pre.length) = .ok [] (RS (pre ++ (W ++ post)) pre.length) := rfl
    rw [e]
    simp only [Rs.bind]
    rw [e0]
    rfl
  have a1 : b_Reading_tree_1 (ms_Reading_tree n) (E6 p (some t0) none none none) (RS (pre ++ (W ++ post)) k0) = _ := eL
  show runS (b_Reading_tree (ms_Reading_tree n)) (E6 p none none none none) (RS (pre ++ (W ++ post)) pre.length) = _
  unfold runS b_Reading_tree
  simp only [sSeq, a0, a1]
  rfl
theorem reads_first {D : Nat} {t : Vl} {W : List Wd} (c : Int) (h : ∀ (n : Nat) (pre post : List Wd), D ≤ n → Okx (pre ++ (W ++ post)) → pw (hdw post) < bb c → hdw post ≠ [40] → (ms_Reading_tree n).f_Reading_first [.ref 0] (RS (pre ++ (W ++ post)) pre.length) = .ok t (RS (pre ++ (W ++ post)) (pre.length + W.length))) (ht : isN t = false) : Reads D t W c :=
  fun n pre post p hD ho _ h1 h3 => ⟨t, _, h n pre post hD ho h1 h3, ht, fun f x y z _ => ⟨f, x, y, z, by omega, rfl⟩⟩
theorem reads_name {w : Wd} (hn : w ∈ names5) : Reads 2 (nmV w) [w] 9 := by
  refine reads_first 9 (fun n pre post hD ho h1 h3 => ?_) rfl
  obtain ⟨n', rfl⟩ : ∃ n', n = n' + 2 := ⟨n - 2, by omega⟩
  have e1 : wd (pre ++ ([w] ++ post)) pre.length = w := wd_app pre post w
  have e2 : wd (pre ++ ([w] ++ post)) (pre.length + 1) = hdw post := wd_post pre [w] post
  have := first_name (n := n') (ws := pre ++ ([w] ++ post)) (k := pre.length) (by rw [e1]; exact hn) (ho.wd _) (by rw [e2]; exact h3)
  rw [e1] at this
  exact this
theorem reads_not {D : Nat} {t : Vl} {W : List Wd} {c : Int} (R : Reads D t W c) (ht : isN t = false) (hc : 5 ≤ c) : Reads (D + 3) (.tup [.str [110, 111, 116], t]) ([110, 111, 116] :: W) 5 := by
  refine reads_first 5 (fun n pre post hD ho h1 h3 => ?_) rfl
  obtain ⟨n', rfl⟩ : ∃ n', n = n' + 1 + 2 := ⟨n - 3, by omega⟩
  have ea : pre ++ (([110, 111, 116] :: W) ++ post) = (pre ++ [[110, 111, 116]]) ++ (W ++ post) := by simp
  have hb : pw (hdw post) < bb c := by
    have h5 : bb 5 = 5 := rfl
    rw [h5] at h1
    unfold bb
    split
    · omega
    · split <;> omega
  have ho2 := ho
  rw [ea] at ho2
  have hT := tree_of R ht (n := n') (pre := pre ++ [[110, 111, 116]]) (post := post) (p := 5) (by omega) ho2 hc hb h1 h3
  rw [← ea] at hT
  have hl : (pre ++ [[110, 111, 116]]).length = pre.length + 1 := by simp
  rw [hl] at hT
  have := first_not (n := n' + 1) (ws := pre ++ (([110, 111, 116] :: W) ++ post)) (k := pre.length) (wd_app pre (W ++ post) [110, 111, 116]) ht hT
  rw [this]
  simp only [List.length_cons]
  rw [show pre.length + 1 + W.length = pre.length + (W.length + 1) by omega]
theorem reads_br {D : Nat} {t : Vl} {W : List Wd} {c : Int} (R : Reads D t W c) (ht : isN t = false) (hc : 1 ≤ c) : Reads (D + 2) t ([40] :: (W ++ [[41]])) 9 := by
  refine reads_first 9 (fun n pre post hD ho h1 h3 => ?_) ht
  obtain ⟨n', rfl⟩ : ∃ n', n = n' + 1 + 1 := ⟨n - 2, by omega⟩
  have ea : pre ++ (([40] :: (W ++ [[41]])) ++ post) = (pre ++ [[40]]) ++ (W ++ ([41] :: post)) := by simp
  have p0 : pw (hdw ([41] :: post)) = 0 := by
    show pw [41] = 0
    kernel_rfl
  have hb : (0 : Int) < bb c := by
    unfold bb
    split
    · omega
    · split <;> omega
  have ho2 := ho
  rw [ea] at ho2
  have hT := tree_of R ht (n := n') (pre := pre ++ [[40]]) (post := [41] :: post) (p := 0) (by omega) ho2 (by omega) (by rw [p0]; exact hb) (by rw [p0]; decide) (by show ([41] : Wd) ≠ [40]; decide)
  have hw := wd_post (pre ++ [[40]]) W ([41] :: post)
  rw [← ea] at hT hw
  have hl : (pre ++ [[40]]).length = pre.length + 1 := by simp
  rw [hl] at hT hw
  have := first_br (n := n' + 1) (ws := pre ++ (([40] :: (W ++ [[41]])) ++ post)) (k := pre.length) (wd_app pre ((W ++ [[41]]) ++ post) [40]) ht hT hw
  rw [this]
  simp only [List.length_cons, List.length_append, List.length_nil]
  rw [show pre.length + 1 + W.length + 1 = pre.length + (W.length + (0 + 1) + 1) by omega]
def okC (c : Int) : Prop := 1 ≤ c ∧ c ≤ 9
theorem mark_voc : ∀ w ∈ marks10, w ∈ voc ∧ w ≠ [40] ∧ (1 ≤ pw w ∧ pw w ≤ 8 ∧ pw w ≠ 5) := by
  intro w hw
  simp only [marks10, List.mem_cons, List.not_mem_nil, or_false] at hw
  rcases hw with rfl | rfl | rfl | rfl | rfl | rfl | rfl | rfl | rfl | rfl <;> exact ⟨by decide, by decide, by decide +kernel⟩
theorem reads_bin {D1 D2 : Nat} {t1 t2 : Vl} {W1 W2 : List Wd} {c1 c2 : Int} {w : Wd} (R1 : Reads D1 t1 W1 c1) (R2 : Reads D2 t2 W2 c2) (ht1 : isN t1 = false) (ht2 : isN t2 = false) (hw : w ∈ marks10)
    (h1 : pw w < c1 ∨ (c1 = pw w ∧ 6 < pw w)) (h2 : pw w < c2 ∨ (c2 = pw w ∧ pw w < 6)) : Reads (max D1 (D2 + 1)) (.tup [.str [98, 105, 110], .str w, t1, t2]) (W1 ++ w :: W2) (pw w) := by
  intro n pre post p hD ho hp hb h3
  obtain ⟨hwv, hw40, hw1, hw8, hw5⟩ := mark_voc w hw
  have ea : pre ++ ((W1 ++ w :: W2) ++ post) = pre ++ (W1 ++ (w :: W2 ++ post)) := by simp
  have eb : pre ++ ((W1 ++ w :: W2) ++ post) = (pre ++ (W1 ++ [w])) ++ (W2 ++ post) := by simp
  have hb1 : pw w < bb c1 := by
    unfold bb
    split
    · omega
    · split <;> omega
  have hoA := ho
  rw [ea] at hoA
  obtain ⟨t0, k0, e0, ht0, L⟩ := R1 n pre (w :: W2 ++ post) p (by omega) hoA (by omega) hb1 hw40
  rw [← ea] at e0 L
  refine ⟨t0, k0, e0, ht0, fun f x y z hf => ?_⟩
  simp only [List.length_append, List.length_cons] at hf
  obtain ⟨f1, x1, y1, z1, hf1, eL⟩ := L f x y z (by omega)
  obtain ⟨f2, rfl⟩ : ∃ f2, f1 = f2 + 1 := ⟨f1 - 1, by omega⟩
  have hoB := ho
  rw [eb] at hoB
  obtain ⟨n', rfl⟩ : ∃ n', n = n' + 1 := ⟨n - 1, by omega⟩
  have hq : qw w ≤ c2 ∧ pw (hdw post) < bb c2 ∧ pw (hdw post) < mx (qw w) ∧ (pw w = 6 → pw (hdw post) < 6) := by
    unfold bb at hb ⊢
    unfold mx qw
    refine ⟨?_, ?_, ?_, ?_⟩ <;> (repeat' split at hb) <;> (repeat' split) <;> omega
  have hT := tree_of R2 ht2 (n := n') (pre := pre ++ (W1 ++ [w])) (post := post) (p := qw w) (by omega) hoB hq.1 hq.2.1 hq.2.2.1 h3
  rw [← eb] at hT
  have ewk : wd (pre ++ ((W1 ++ w :: W2) ++ post)) (pre.length + W1.length) = w := by
    rw [ea]
    exact wd_post pre W1 (w :: W2 ++ post)
  have ewe : wd (pre ++ ((W1 ++ w :: W2) ++ post)) (pre.length + (W1 ++ w :: W2).length) = hdw post := wd_post pre (W1 ++ w :: W2) post
  have hl : (pre ++ (W1 ++ [w])).length = pre.length + W1.length + 1 := by simp; omega
  rw [hl] at hT
  have hl2 : pre.length + W1.length + 1 + W2.length = pre.length + (W1 ++ w :: W2).length := by simp; omega
  rw [hl2] at hT
  refine ⟨f2, some (.str w), some (.int (pw w)), some t2, by simp; omega, ?_⟩
  rw [eL]
  have hst := loop_step (M := ms_Reading_tree (n' + 1)) (f := f2) (p := p) (t := t1) (u := t2) (x := x1) (y := y1) (z := z1) (ws := pre ++ ((W1 ++ w :: W2) ++ post)) (k := pre.length + W1.length) (k2 := pre.length + (W1 ++ w :: W2).length)
    ht1 (by rw [ewk]; exact hw) (by rw [ewk]; exact hwv) (by rw [ewk]; unfold mx; split <;> omega) ht2 (by rw [ewk]; exact hT) (ho.wd _) (by rw [ewk, ewe]; exact hq.2.2.2)
  rw [ewk] at hst
  exact hst
theorem parse_ok {D : Nat} {t : Vl} {W : List Wd} {c : Int} (R : Reads D t W c) (ht : isN t = false) (hn : noL t = true) (hc : 1 ≤ c) (hD : D ≤ 59) (ho : Okx W) (S : Sto) : m_parse_tree [.fz (W.map .str)] S = .ok t S := by
  have p0 : pw (hdw []) = 0 := by
    show pw [] = 0
    kernel_rfl
  have hb : (0 : Int) < bb c := by
    unfold bb
    split
    · omega
    · split <;> omega
  have hT := tree_of R ht (n := 59) (pre := []) (post := []) (p := 0) hD (by simpa using ho) (by omega) (by rw [p0]; exact hb) (by rw [p0]; decide) (by show ([] : Wd) ≠ [40]; decide)
  simp only [List.nil_append, List.append_nil, List.length_nil, Nat.zero_add] at hT
  have e0 : b_parse_tree_0 [some (.fz (W.map .str)), none, none] [] = .nx [some (.fz (W.map .str)), some (.ref 0), none] (RS W 0) := by kernel_rfl
  have e1 : b_parse_tree_1 [some (.fz (W.map .str)), some (.ref 0), none] (RS W 0) = .nx [some (.fz (W.map .str)), some (.ref 0), some t] (RS W W.length) := by
    have a : b_parse_tree_1 [some (.fz (W.map .str)), some (.ref 0), none] (RS W 0) = (m_Reading_tree [.ref 0, .int 0] (RS W 0)).out [some (.fz (W.map .str)), some (.ref 0), none] fun x S' => .nx [some (.fz (W.map .str)), some (.ref 0), some x] S' := by rfl
    rw [a]
    unfold m_Reading_tree
    rw [hT]
    rfl
  have e2 : b_parse_tree_2 [some (.fz (W.map .str)), some (.ref 0), some t] (RS W W.length) = .rt t (RS W W.length) := by
    have c : fB (fOp (lift2 gEq) (fUn (gFldC clss "at") (fVar 1)) (fCB SL.gLen (aCons (fVar 0) aNil))) [some (.fz (W.map .str)), some (.ref 0), some t] (RS W W.length) = .ok (decide ((W.length : Int) = ((W.map Vl.str).length : Nat))) (RS W W.length) := by rfl
    unfold b_parse_tree_2 sRet fIf
    rw [c, List.length_map, decide_eq_true rfl]
    rfl
  have hf : frz0s [.fz (W.map .str)] = true := by
    simp only [frz0s, frz0, Bool.and_true]
    generalize W = X
    induction X with
    | nil => rfl
    | cons x X ih => simp [frz0s, frz0, ih]
  unfold m_parse_tree iso
  rw [if_pos hf]
  have e : defS 1 3 b_parse_tree [.fz (W.map .str)] [] = .ok t (RS W W.length) := by
    show runS b_parse_tree [some (.fz (W.map .str)), none, none] [] = _
    unfold runS b_parse_tree
    simp only [sSeq, e0, e1, e2]
  rw [e]
  simp only [hn, if_true]
end SL.K06
set_option Elab.async false
set_option linter.all false
set_option maxRecDepth 100000
namespace SL.K06
open PySem DL
open DK06 (Lx hdN okW isSg mkAt InR)
/-! ### texts -/
/-- the text L is read as the words W, whatever follows that is no sign of a word -/
def Tx (L : Wd) (W : List Wd) : Prop := ∀ (r : Wd) (o : Option (List Wd)), hdN r = true → Lx r o → Lx (L ++ r) (o.map (W ++ ·))
theorem tk_sign {c : Nat} {w : Wd} (h1 : isSg c = true) (h2 : c ≠ 32) (h3 : w.all isSg = true) (h4 : okW (c :: w) = some true) {r : Wd} {o : Option (List Wd)} (hr : hdN r = true) (h : Lx r o) : Lx ((c :: w) ++ r) (o.map ((c :: w) :: ·)) := .word h1 h2 h3 hr h4 h
theorem okN : ∀ w ∈ names5 ++ [[110, 111, 116], [111, 114], [97, 110, 100], [105, 110]], (match w with | c :: r => isSg c && !(c == 32) && r.all isSg && (okW (c :: r) == some true) | [] => false) = true := by decide +kernel
theorem tk_word {w : Wd} (hw : w ∈ names5 ++ [[110, 111, 116], [111, 114], [97, 110, 100], [105, 110]]) {r : Wd} {o : Option (List Wd)} (hr : hdN r = true) (h : Lx r o) : Lx (w ++ r) (o.map (w :: ·)) := by
  have := okN w hw
  cases w with
  | nil => cases this
  | cons c w =>
    simp only [Bool.and_eq_true, Bool.not_eq_true', beq_eq_false_iff_ne, beq_iff_eq] at this
    obtain ⟨⟨⟨h1, h2⟩, h3⟩, h4⟩ := this
    exact tk_sign h1 h2 h3 h4 hr h
theorem hd32 (r : Wd) : hdN (32 :: r) = true := by
  show (!isSg 32) = true
  decide +kernel
theorem hd41 (r : Wd) : hdN (41 :: r) = true := by
  show (!isSg 41) = true
  decide +kernel
theorem tk_mark {w : Wd} (hw : w ∈ marks10) {r : Wd} {o : Option (List Wd)} (h : Lx r o) : Lx (w ++ 32 :: r) (o.map (w :: ·)) := by
  have hs : Lx (32 :: r) o := .sp h
  have h0 := hd32 r
  simp only [marks10, List.mem_cons, List.not_mem_nil, or_false] at hw
  rcases hw with rfl | rfl | rfl | rfl | rfl | rfl | rfl | rfl | rfl | rfl
  · exact .mark (c := 60) (m := [45, 62]) (ms := [[60]]) (by decide +kernel) (by decide) (by kernel_rfl) hs
  · exact .mark (c := 45) (m := [62]) (ms := [[45]]) (by decide +kernel) (by decide) (by kernel_rfl) hs
  · exact tk_word (by decide) h0 hs
  · exact tk_word (by decide) h0 hs
  · exact .mark (c := 61) (m := []) (ms := []) (by decide +kernel) (by decide) (by kernel_rfl) hs
  · exact .mark (c := 60) (m := []) (ms := []) (by decide +kernel) (by decide) (by kernel_rfl) hs
  · exact tk_word (by decide) h0 hs
  · exact .mark (c := 43) (m := []) (ms := []) (by decide +kernel) (by decide) (by kernel_rfl) hs
  · exact .mark (c := 45) (m := []) (ms := []) (by decide +kernel) (by decide) (by kernel_rfl) hs
  · exact .mark (c := 42) (m := []) (ms := []) (by decide +kernel) (by decide) (by kernel_rfl) hs
theorem map_map {α : Type} (o : Option (List α)) (a b : List α) : (o.map (a ++ ·)).map (b ++ ·) = o.map ((b ++ a) ++ ·) := by
  cases o <;> simp
theorem map_cons {α : Type} (o : Option (List α)) (a : α) : o.map (a :: ·) = o.map ([a] ++ ·) := by
  cases o <;> simp
theorem tx_name {w : Wd} (hw : w ∈ names5) : Tx w [w] := fun r o hr h => by
  have := tk_word (List.mem_append_left _ hw) hr h
  rw [map_cons] at this
  exact this
theorem tx_not {L : Wd} {W : List Wd} (h : Tx L W) : Tx ([110, 111, 116, 32] ++ L) ([110, 111, 116] :: W) := fun r o hr hx => by
  have h1 := h r o hr hx
  have h2 := tk_word (w := [110, 111, 116]) (r := 32 :: (L ++ r)) (by decide) (hd32 _) (.sp h1)
  rw [map_cons, map_map] at h2
  exact h2
theorem tx_br {L : Wd} {W : List Wd} (h : Tx L W) : Tx (([40] ++ L) ++ [41]) ([40] :: (W ++ [[41]])) := fun r o hr hx => by
  have h0 : Lx (41 :: r) (o.map ([41] :: ·)) := .mark (c := 41) (m := []) (ms := []) (by decide +kernel) (by decide) (by kernel_rfl) hx
  have h1 := h (41 :: r) _ (hd41 r) h0
  have h2 : Lx (40 :: (L ++ 41 :: r)) _ := .mark (c := 40) (m := []) (ms := []) (by decide +kernel) (by decide) (by kernel_rfl) h1
  rw [map_cons, map_cons, map_map, map_map] at h2
  have e : ([40] ++ L) ++ [41] ++ r = 40 :: (L ++ 41 :: r) := by simp
  rw [e]
  exact h2
theorem tx_bin {L1 L2 : Wd} {W1 W2 : List Wd} {w : Wd} (h1 : Tx L1 W1) (h2 : Tx L2 W2) (hw : w ∈ marks10) : Tx ((((L1 ++ [32]) ++ w) ++ [32]) ++ L2) (W1 ++ w :: W2) := fun r o hr hx => by
  have a := h2 r o hr hx
  have b := tk_mark hw a
  have c := h1 (32 :: (w ++ 32 :: (L2 ++ r))) _ (hd32 _) (.sp b)
  rw [map_cons, map_map, map_map] at c
  have e : ((((L1 ++ [32]) ++ w) ++ [32]) ++ L2) ++ r = L1 ++ 32 :: (w ++ 32 :: (L2 ++ r)) := by simp
  rw [e]
  have e2 : W1 ++ w :: W2 = W1 ++ [w] ++ W2 := by simp
  rw [e2]
  exact c
theorem ofDts_str : ∀ ws : List Wd, ofDts (ws.map .str) = some (ws.map .str)
  | [] => rfl
  | w :: ws => by
    rw [List.map_cons, List.map_cons]
    unfold ofDts
    rw [ofDts_str ws]
    rfl
theorem words_ok {L : Wd} {W : List Wd} (h : Tx L W) (hl : L.length < 10000) (hr : L.all (· < 1000) = true) (S : Sto) : m_words_of [.str L] S = .ok (.fz (W.map .str)) S := by
  have hx := h [] (some []) rfl .nil
  rw [List.append_nil, Option.map_some, List.append_nil] at hx
  have e := DK06.words_of_ok hx hl hr
  show upF (DK06.m_words_of [.str L]) S = _
  rw [e]
  unfold upF
  have : ofDt (.lst (W.map .str)) = some (.fz (W.map .str)) := by
    unfold ofDt
    rw [ofDts_str]
  dsimp only
  rw [this]
/-! ### what stands in the pool -/
/-- a tree that may be compared -/
def TD (e : Nat) (t : Vl) : Prop := ∃ d, toDt t = some d ∧ d.sgn = true ∧ d.dep ≤ e ∧ eqD d d = true ∧ noL t = true ∧ isN t = false
structure It (D e b : Nat) (t : Vl) (L : Wd) (c : Int) (W : List Wd) : Prop where
  rd : Reads D t W c
  tx : Tx L W
  c1 : 1 ≤ c
  td : TD e t
  ln : L.length ≤ b
  ok : L.all (· < 1000) = true
  wl : W.length ≤ b
  vo : ∀ w ∈ W, w ∈ voc
theorem It.mono {D D' e e' b b' : Nat} {t : Vl} {L : Wd} {c : Int} {W : List Wd} (h : It D e b t L c W) (h1 : D ≤ D') (h2 : e ≤ e') (h3 : b ≤ b') : It D' e' b' t L c W :=
  ⟨fun n pre post p hD => h.rd n pre post p (by omega), h.tx, h.c1, by obtain ⟨d, a1, a2, a3, a4⟩ := h.td; exact ⟨d, a1, a2, by omega, a4⟩, by have := h.ln; omega, h.ok, by have := h.wl; omega, h.vo⟩
theorem TD.nN {e : Nat} {t : Vl} (h : TD e t) : isN t = false := by
  obtain ⟨d, _, _, _, _, _, h⟩ := h
  exact h
theorem names_lt : ∀ w ∈ names5, w.all (· < 1000) = true ∧ w.length = 1 ∧ w.all (· < 0x110000) = true := by decide
theorem eqStr (s : Wd) : eqD (.str s) (.str s) = true := by simp [eqD]
theorem it_name {w : Wd} (hw : w ∈ names5) : It 2 1 10 (nmV w) w 9 [w] := by
  obtain ⟨h1, h2, h3⟩ := names_lt w hw
  refine ⟨reads_name hw, tx_name hw, by decide, ⟨.tup [.str [110, 97, 109, 101], .str w], rfl, ?_, by simp [Dt.dep, deps], ?_, rfl, rfl⟩, by omega, h1, by simp, fun v hv => ?_⟩
  · simp only [Dt.sgn, sgns, h3]
    decide
  · simp [eqD, eqDs]
  · have : v = w := by simpa using hv
    rw [this]
    exact (name_voc w hw).1
theorem it_br {D e b : Nat} {t : Vl} {L : Wd} {c : Int} {W : List Wd} (h : It D e b t L c W) : It (D + 2) e (b + 2) t (([40] ++ L) ++ [41]) 9 ([40] :: (W ++ [[41]])) := by
  refine ⟨reads_br h.rd h.td.nN h.c1, tx_br h.tx, by decide, h.td, ?_, ?_, ?_, fun v hv => ?_⟩
  · have := h.ln
    simp
    omega
  · rw [List.all_append, List.all_append, h.ok]
    decide
  · have := h.wl
    simp
    omega
  · simp only [List.mem_cons, List.mem_append, List.not_mem_nil, or_false] at hv
    rcases hv with rfl | hv | rfl
    · decide
    · exact h.vo v hv
    · decide
theorem it_not {D e b : Nat} {t : Vl} {L : Wd} {c : Int} {W : List Wd} (h : It D e b t L c W) (hc : 5 ≤ c) : It (D + 3) (e + 1) (b + 4) (.tup [.str [110, 111, 116], t]) ([110, 111, 116, 32] ++ L) 5 ([110, 111, 116] :: W) := by
  obtain ⟨d, a1, a2, a3, a4, a5, a6⟩ := h.td
  refine ⟨reads_not h.rd a6 hc, tx_not h.tx, by decide, ⟨.tup [.str [110, 111, 116], d], ?_, ?_, ?_, ?_, ?_, rfl⟩, ?_, ?_, ?_, fun v hv => ?_⟩
  · simp [toDt, toDts, a1]
  · simp only [Dt.sgn, sgns, a2]
    decide
  · simp only [Dt.dep, deps]
    omega
  · simp [eqD, eqDs, a4]
  · simp [noL, noLs, a5]
  · have := h.ln
    simp
    omega
  · rw [List.all_append, h.ok]
    decide
  · have := h.wl
    simp
    omega
  · simp only [List.mem_cons] at hv
    rcases hv with rfl | hv
    · decide
    · exact h.vo v hv
theorem marks_lt : ∀ w ∈ marks10, w.all (· < 1000) = true ∧ w.length ≤ 3 ∧ w.all (· < 0x110000) = true := by decide
theorem it_bin {D1 D2 e b1 b2 : Nat} {t1 t2 : Vl} {L1 L2 : Wd} {c1 c2 : Int} {W1 W2 : List Wd} {w : Wd} (h1 : It D1 e b1 t1 L1 c1 W1) (h2 : It D2 e b2 t2 L2 c2 W2) (hw : w ∈ marks10) (q1 : pw w < c1 ∨ (c1 = pw w ∧ 6 < pw w)) (q2 : pw w < c2 ∨ (c2 = pw w ∧ pw w < 6)) :
    It (max D1 (D2 + 1)) (e + 1) (b1 + b2 + 5) (.tup [.str [98, 105, 110], .str w, t1, t2]) ((((L1 ++ [32]) ++ w) ++ [32]) ++ L2) (pw w) (W1 ++ w :: W2) := by
  obtain ⟨d1, a1, a2, a3, a4, a5, a6⟩ := h1.td
  obtain ⟨d2, b1', b2', b3, b4, b5, b6⟩ := h2.td
  obtain ⟨m1, m2, m3⟩ := marks_lt w hw
  obtain ⟨n1, n2, n3⟩ := mark_voc w hw
  refine ⟨reads_bin h1.rd h2.rd a6 b6 hw q1 q2, tx_bin h1.tx h2.tx hw, n3.1, ⟨.tup [.str [98, 105, 110], .str w, d1, d2], ?_, ?_, ?_, ?_, ?_, rfl⟩, ?_, ?_, ?_, fun v hv => ?_⟩
  · simp [toDt, toDts, a1, b1']
  · simp only [Dt.sgn, sgns, a2, b2', m3]
    decide
  · simp only [Dt.dep, deps]
    omega
  · simp [eqD, eqDs, a4, b4]
  · simp [noL, noLs, a5, b5]
  · have x1 := h1.ln
    have x2 := h2.ln
    simp
    omega
  · rw [List.all_append, List.all_append, List.all_append, List.all_append, h1.ok, h2.ok, m1]
    decide
  · have x1 := h1.wl
    have x2 := h2.wl
    simp
    omega
  · simp only [List.mem_append, List.mem_cons] at hv
    rcases hv with hv | rfl | hv
    · exact h1.vo v hv
    · exact n1
    · exact h2.vo v hv
/-! ### how the law prints -/
def brk (L : Wd) : Wd := ([40] ++ L) ++ [41]
def prN (c : Int) (L : Wd) : Wd := if 5 ≤ c then L else brk L
def prL (c own : Int) (L : Wd) : Wd := if own < c ∨ (c = own ∧ 6 < own) then L else brk L
def prR (c own : Int) (L : Wd) : Wd := if own < c ∨ (c = own ∧ own < 6) then L else brk L
theorem it_prN {D e b : Nat} {t : Vl} {L : Wd} {c : Int} {W : List Wd} (h : It D e b t L c W) : ∃ W', It (D + 5) (e + 1) (b + 6) (.tup [.str [110, 111, 116], t]) ([110, 111, 116, 32] ++ prN c L) 5 W' := by
  unfold prN
  by_cases q : 5 ≤ c
  · rw [if_pos q]
    exact ⟨_, (it_not h q).mono (by omega) (by omega) (by omega)⟩
  · rw [if_neg q]
    exact ⟨_, (it_not (it_br h) (by decide)).mono (by omega) (by omega) (by omega)⟩
theorem it_prB {D1 D2 e b1 b2 : Nat} {t1 t2 : Vl} {L1 L2 : Wd} {c1 c2 : Int} {W1 W2 : List Wd} {w : Wd} (h1 : It D1 e b1 t1 L1 c1 W1) (h2 : It D2 e b2 t2 L2 c2 W2) (hw : w ∈ marks10) : ∃ W',
    It (max (D1 + 2) (D2 + 3)) (e + 1) (b1 + b2 + 9) (.tup [.str [98, 105, 110], .str w, t1, t2]) ((((prL c1 (pw w) L1 ++ [32]) ++ w) ++ [32]) ++ prR c2 (pw w) L2) (pw w) W' := by
  obtain ⟨n1, n2, n3, n4, n5⟩ := mark_voc w hw
  have A : ∃ c' W', It (D1 + 2) e (b1 + 2) t1 (prL c1 (pw w) L1) c' W' ∧ (pw w < c' ∨ (c' = pw w ∧ 6 < pw w)) := by
    unfold prL
    by_cases q : pw w < c1 ∨ (c1 = pw w ∧ 6 < pw w)
    · rw [if_pos q]
      exact ⟨c1, _, h1.mono (by omega) (by omega) (by omega), q⟩
    · rw [if_neg q]
      exact ⟨9, _, it_br h1, .inl (by omega)⟩
  have B : ∃ c' W', It (D2 + 2) e (b2 + 2) t2 (prR c2 (pw w) L2) c' W' ∧ (pw w < c' ∨ (c' = pw w ∧ pw w < 6)) := by
    unfold prR
    by_cases q : pw w < c2 ∨ (c2 = pw w ∧ pw w < 6)
    · rw [if_pos q]
      exact ⟨c2, _, h2.mono (by omega) (by omega) (by omega), q⟩
    · rw [if_neg q]
      exact ⟨9, _, it_br h2, .inl (by omega)⟩
  obtain ⟨ca, Wa, ia, qa⟩ := A
  obtain ⟨cb, Wb, ib, qb⟩ := B
  exact ⟨_, (it_bin ia ib hw qa qb).mono (by omega) (by omega) (by omega)⟩
end SL.K06
set_option Elab.async false
set_option linter.all false
set_option maxRecDepth 100000
namespace SL.K06
open PySem DL
open DK06 (InR)
theorem toDts_ints : ∀ ns : List Int, toDts (ns.map .int) = some (ns.map .int)
  | [] => rfl
  | n :: ns => by
    rw [List.map_cons, List.map_cons]
    unfold toDts
    rw [toDts_ints ns]
    rfl
theorem ofDts_ints : ∀ ns : List Int, ofDts (ns.map .int) = some (ns.map .int)
  | [] => rfl
  | n :: ns => by
    rw [List.map_cons, List.map_cons]
    unfold ofDts
    rw [ofDts_ints ns]
    rfl
theorem draw_fz (ns sizes : List Int) (k : Nat) (hs : ∀ s ∈ sizes, DK06.szOk s = true) (hl : sizes.length < 1000) (S : Sto) : ∃ ds : List Int, InR ds sizes ∧ m__law_draw [.fz (ns.map .int), .int k, .fz (sizes.map .int)] S = .ok (.fz (ds.map .int)) S := by
  obtain ⟨ds, h1, h2⟩ := DK06.draw_sem ns sizes k hs hl
  refine ⟨ds, h1, ?_⟩
  have e : toDts [.fz (ns.map .int), .int k, .fz (sizes.map .int)] = some [.lst (ns.map .int), .int k, .lst (sizes.map .int)] := by
    simp only [toDts, toDt, toDts_ints]
  unfold m__law_draw liftD
  rw [e]
  dsimp only
  rw [h2]
  unfold upF
  have e2 : ofDt (.lst (ds.map .int)) = some (.fz (ds.map .int)) := by
    unfold ofDt
    rw [ofDts_ints]
  dsimp only
  rw [e2]
def M10 : Vl := .fz (marks10.map .str)
def pK : AObj := match b__law_tree_0 [none, none, none, none, none, none, none, none, none, none, none, none, none, none, none, none, none, none] [] with
  | .nx _ [o] => o
  | _ => .lst []
abbrev TE (x0 x1 at_ dg mk own lf rt one fi cl ot se ne wo : Option Vl) : SEnv := [x0, x1, some (.ref 0), some M10, some (.ref 3), at_, dg, mk, own, lf, rt, one, fi, cl, ot, se, ne, wo]
def TS (A B : AObj) (pool : List Vl) : Sto := [pK, A, B, .lst pool]
def D3 (d0 d1 d2 : Int) : Option Vl := some (.fz [.int d0, .int d1, .int d2])
def itm (t : Vl) (L : Wd) (c : Int) : Vl := .tup [t, .str L, .int c]
theorem sadd {a b : Wd} (h : a.length + b.length < 100000) (S : Sto) : lift2F gAdd (.str a) (.str b) S = .ok (.str (a ++ b)) S := by
  have hb : Nat.ble (a.length + b.length) 16777216 = true := Nat.ble_eq_true_of_le (by omega)
  simp [lift2F, toDt, gAdd, hb, upRF, ofDt]
section
variable {x0 x1 at_ dg mk own lf rt one fi cl ot se ne wo : Option Vl} {A B : AObj} {pool : List Vl}
theorem s0 (ns : List Int) (i : Nat) : ∃ d0 d1 d2 : Int, (0 ≤ d0 ∧ d0 < 10) ∧ 0 ≤ d1 ∧ b__law_tree_3_0 (TE (some (.fz (ns.map .int))) x1 (some (.int (0 + (i : Nat)))) dg mk own lf rt one fi cl ot se ne wo) (TS A B pool)
    = .nx (TE (some (.fz (ns.map .int))) x1 (some (.int (0 + (i : Nat)))) (D3 d0 d1 d2) mk own lf rt one fi cl ot se ne wo) (TS A B pool) := by
  obtain ⟨ds, ⟨hl, hr⟩, h2⟩ := draw_fz ns [10, 9, 5] (1 + i) (by decide) (by decide) (TS A B pool)
  match ds, hl with
  | [d0, d1, d2], _ =>
    have r0 := hr 0 d0 10 rfl rfl
    have r1 := hr 1 d1 9 rfl rfl
    refine ⟨d0, d1, d2, r0, r1.1, ?_⟩
    have ea : (aCons (fVar 0) (aCons (fOp (lift2F gAdd) (fC (.int 1)) (fVar 5)) (aCons (fLstF (aCons (fC (.int 10)) (aCons (fC (.int 9)) (aCons (fC (.int 5)) aNil)))) aNil))) (TE (some (.fz (ns.map .int))) x1 (some (.int (0 + (i : Nat)))) dg mk own lf rt one fi cl ot se ne wo) (TS A B pool)
        = .ok [.fz (ns.map .int), .int (1 + (0 + (i : Nat))), .fz ([10, 9, 5].map .int)] (TS A B pool) := rfl
    unfold b__law_tree_3_0 sAsg fCall
    rw [ea]
    simp only [Rs.bind]
    have ei : (1 + (0 + (i : Nat)) : Int) = ((1 + i : Nat) : Int) := by simp
    rw [ei, h2]
    rfl
theorem s1 {d0 d1 d2 : Int} {t : Vl} {L : Wd} {c : Int} {j : Nat} (hj : d1 % (pool.length : Nat) = (j : Int)) (hg : pool[j]? = some (itm t L c)) (hl : pool.length < 100) :
    b__law_tree_3_1 (TE x0 x1 at_ (D3 d0 d1 d2) mk own lf rt one fi cl ot se ne wo) (TS A B pool) = .nx (TE x0 x1 at_ (D3 d0 d1 d2) mk own lf rt (some t) (some (.str L)) (some (.int c)) ot se ne wo) (TS A B (pool.eraseIdx j)) := by
  have hjl : j < pool.length := (List.getElem?_eq_some_iff.mp hg).1
  have i1 : fOp SL.gIx (fVar 6) (fC (.int 1)) (TE x0 x1 at_ (D3 d0 d1 d2) mk own lf rt one fi cl ot se ne wo) (TS A B pool) = .ok (.int d1) (TS A B pool) := rfl
  have i2 : fCB SL.gLen (aCons (fVar 4) aNil) (TE x0 x1 at_ (D3 d0 d1 d2) mk own lf rt one fi cl ot se ne wo) (TS A B pool) = .ok (.int (pool.length : Nat)) (TS A B pool) := rfl
  have hpos : decide ((0 : Int) < (pool.length : Nat)) = true := by simp; omega
  have i3 : lift2 gMod (.int d1) (.int (pool.length : Nat)) (TS A B pool) = .ok (.int (j : Nat)) (TS A B pool) := by
    simp only [lift2, toDt, gMod, gIC, modOk, hpos, if_true, upR, ofDt, hj]
  have ea : (aCons (fOp (lift2 gMod) (fOp SL.gIx (fVar 6) (fC (.int 1))) (fCB SL.gLen (aCons (fVar 4) aNil))) aNil) (TE x0 x1 at_ (D3 d0 d1 d2) mk own lf rt one fi cl ot se ne wo) (TS A B pool) = .ok [.int (j : Nat)] (TS A B pool) := by
    show (((fOp SL.gIx (fVar 6) (fC (.int 1))) (TE x0 x1 at_ (D3 d0 d1 d2) mk own lf rt one fi cl ot se ne wo) (TS A B pool)).bind fun x S1 => ((fCB SL.gLen (aCons (fVar 4) aNil)) (TE x0 x1 at_ (D3 d0 d1 d2) mk own lf rt one fi cl ot se ne wo) S1).bind fun y S2 => lift2 gMod x y S2).bind (fun x S1 => (Rs.ok [x] S1 : Rs (List Vl))) = _
    rw [i1]
    simp only [Rs.bind]
    rw [i2]
    simp only [i3]
  have hb : ibd 1000000000 ((j : Nat) : Int) = true := ibd_nat (by omega)
  have hx : PySem.seqIndex? ((j : Nat) : Int) pool.length = some j := by
    unfold PySem.seqIndex?
    have h0 : ¬ ((j : Int) < 0) := by omega
    simp [h0, hjl]
  have em : mPopAt (.ref 3) [.int (j : Nat)] (TS A B pool) = .ok (itm t L c) (TS A B (pool.eraseIdx j)) := by
    show (if ibd 1000000000 ((j : Nat) : Int) then _ else _) = _
    rw [if_pos hb]
    show (match PySem.seqIndex? ((j : Nat) : Int) pool.length with | some k => _ | none => _) = _
    rw [hx]
    show (match pool[j]? with | some y => _ | none => _) = _
    rw [hg]
    rfl
  have ef : fBM isL mPopAt (fVar 4) (aCons (fOp (lift2 gMod) (fOp SL.gIx (fVar 6) (fC (.int 1))) (fCB SL.gLen (aCons (fVar 4) aNil))) aNil) (TE x0 x1 at_ (D3 d0 d1 d2) mk own lf rt one fi cl ot se ne wo) (TS A B pool) = .ok (itm t L c) (TS A B (pool.eraseIdx j)) := by
    show ((aCons (fOp (lift2 gMod) (fOp SL.gIx (fVar 6) (fC (.int 1))) (fCB SL.gLen (aCons (fVar 4) aNil))) aNil) (TE x0 x1 at_ (D3 d0 d1 d2) mk own lf rt one fi cl ot se ne wo) (TS A B pool)).bind (fun xs S2 => mPopAt (.ref 3) xs S2) = _
    rw [ea]
    exact em
  unfold b__law_tree_3_1 sAsg
  rw [ef]
  rfl
theorem fBrk {i : Nat} {L : Wd} {env : SEnv} {S : Sto} (h : env[i]? = some (some (.str L))) (hl : L.length < 10000) : fOp (lift2F gAdd) (fOp (lift2F gAdd) (fC (.str [40])) (fVar i)) (fC (.str [41])) env S = .ok (.str (brk L)) S := by
  have e1 : lift2F gAdd (.str [40]) (.str L) S = .ok (.str ([40] ++ L)) S := sadd (by simp; omega) S
  have e2 : lift2F gAdd (.str ([40] ++ L)) (.str [41]) S = .ok (.str (brk L)) S := sadd (by simp; omega) S
  simp only [fOp, fC, fVar, h, Rs.bind, e1, e2]
theorem s2_no {d0 d1 d2 : Int} (h : d2 ≠ 0) : b__law_tree_3_2 (TE x0 x1 at_ (D3 d0 d1 d2) mk own lf rt one fi cl ot se ne wo) (TS A B pool) = .nx (TE x0 x1 at_ (D3 d0 d1 d2) mk own lf rt one fi cl ot se ne wo) (TS A B pool) := by
  have c : fB (fOp (lift2 gEq) (fOp SL.gIx (fVar 6) (fC (.int 2))) (fC (.int 0))) (TE x0 x1 at_ (D3 d0 d1 d2) mk own lf rt one fi cl ot se ne wo) (TS A B pool) = .ok (d2 == 0) (TS A B pool) := rfl
  have hb : (d2 == 0) = false := by rw [beq_eq_false_iff_ne]; exact h
  unfold b__law_tree_3_2 sIf
  rw [c, hb]
  rfl
theorem s2_yes {d0 d1 : Int} {t : Vl} {L : Wd} {c : Int} (hl : pool.length < 100) (hL : L.length < 10000) : b__law_tree_3_2 (TE x0 x1 at_ (D3 d0 d1 0) mk own lf rt (some t) (some (.str L)) (some (.int c)) ot se ne wo) (TS A B pool)
    = .nx (TE x0 x1 at_ (D3 d0 d1 0) mk own lf rt (some (.tup [.str [110, 111, 116], t])) (some (.str ([110, 111, 116, 32] ++ prN c L))) (some (.int 5)) ot se ne wo) (TS A B pool) := by
  have c0 : fB (fOp (lift2 gEq) (fOp SL.gIx (fVar 6) (fC (.int 2))) (fC (.int 0))) (TE x0 x1 at_ (D3 d0 d1 0) mk own lf rt (some t) (some (.str L)) (some (.int c)) ot se ne wo) (TS A B pool) = .ok true (TS A B pool) := rfl
  have f1 : (fIf (fB (fOp (lift2 gGe) (fVar 13) (fC (.int 5)))) (fVar 12) (fOp (lift2F gAdd) (fOp (lift2F gAdd) (fC (.str [40])) (fVar 12)) (fC (.str [41])))) (TE x0 x1 at_ (D3 d0 d1 0) mk own lf rt (some t) (some (.str L)) (some (.int c)) ot se ne wo) (TS A B pool) = .ok (.str (prN c L)) (TS A B pool) := by
    have c1 : fB (fOp (lift2 gGe) (fVar 13) (fC (.int 5))) (TE x0 x1 at_ (D3 d0 d1 0) mk own lf rt (some t) (some (.str L)) (some (.int c)) ot se ne wo) (TS A B pool) = .ok (decide (5 ≤ c)) (TS A B pool) := rfl
    unfold fIf
    rw [c1]
    simp only [Rs.bind]
    unfold prN
    by_cases q : 5 ≤ c
    · rw [decide_eq_true q, if_pos rfl, if_pos q]
      rfl
    · rw [decide_eq_false q, if_neg (by decide), if_neg q]
      exact fBrk rfl hL
  have hp : (prN c L).length ≤ L.length + 2 := by
    unfold prN brk
    split
    · omega
    · simp
  have f2 : (aCons (fTup (aCons (fTup (aCons (fC (.str [110, 111, 116])) (aCons (fVar 11) aNil))) (aCons (fOp (lift2F gAdd) (fC (.str [110, 111, 116, 32])) (fIf (fB (fOp (lift2 gGe) (fVar 13) (fC (.int 5)))) (fVar 12) (fOp (lift2F gAdd) (fOp (lift2F gAdd) (fC (.str [40])) (fVar 12)) (fC (.str [41]))))) (aCons (fC (.int 5)) aNil)))) aNil) (TE x0 x1 at_ (D3 d0 d1 0) mk own lf rt (some t) (some (.str L)) (some (.int c)) ot se ne wo) (TS A B pool) = .ok [itm (.tup [.str [110, 111, 116], t]) ([110, 111, 116, 32] ++ prN c L) 5] (TS A B pool) := by
    have f3 : fOp (lift2F gAdd) (fC (.str [110, 111, 116, 32])) (fIf (fB (fOp (lift2 gGe) (fVar 13) (fC (.int 5)))) (fVar 12) (fOp (lift2F gAdd) (fOp (lift2F gAdd) (fC (.str [40])) (fVar 12)) (fC (.str [41])))) (TE x0 x1 at_ (D3 d0 d1 0) mk own lf rt (some t) (some (.str L)) (some (.int c)) ot se ne wo) (TS A B pool) = .ok (.str ([110, 111, 116, 32] ++ prN c L)) (TS A B pool) := by
      have e3 : ∀ g : Fe, fOp (lift2F gAdd) (fC (.str [110, 111, 116, 32])) g (TE x0 x1 at_ (D3 d0 d1 0) mk own lf rt (some t) (some (.str L)) (some (.int c)) ot se ne wo) (TS A B pool) = (g (TE x0 x1 at_ (D3 d0 d1 0) mk own lf rt (some t) (some (.str L)) (some (.int c)) ot se ne wo) (TS A B pool)).bind fun y S2 => lift2F gAdd (.str [110, 111, 116, 32]) y S2 := fun _ => rfl
      rw [e3, f1]
      exact sadd (by simp; omega) _
    have e4 : ∀ g : Fe, (aCons (fTup (aCons (fTup (aCons (fC (.str [110, 111, 116])) (aCons (fVar 11) aNil))) (aCons g (aCons (fC (.int 5)) aNil)))) aNil) (TE x0 x1 at_ (D3 d0 d1 0) mk own lf rt (some t) (some (.str L)) (some (.int c)) ot se ne wo) (TS A B pool)
        = ((g (TE x0 x1 at_ (D3 d0 d1 0) mk own lf rt (some t) (some (.str L)) (some (.int c)) ot se ne wo) (TS A B pool)).bind fun y S2 => (Rs.ok [.tup [.tup [.str [110, 111, 116], t], y, .int 5]] S2 : Rs (List Vl))) := fun g => by
      cases hg : g (TE x0 x1 at_ (D3 d0 d1 0) mk own lf rt (some t) (some (.str L)) (some (.int c)) ot se ne wo) (TS A B pool) <;> simp [aCons, fTup, fC, fVar, aNil, Rs.bind, hg]
    rw [e4, f3]
    rfl
  have hb : Nat.blt pool.length 16777216 = true := Nat.ble_eq_true_of_le (by omega)
  have a0 : b__law_tree_3_2_0 (TE x0 x1 at_ (D3 d0 d1 0) mk own lf rt (some t) (some (.str L)) (some (.int c)) ot se ne wo) (TS A B pool) = .nx (TE x0 x1 at_ (D3 d0 d1 0) mk own lf rt (some t) (some (.str L)) (some (.int c)) ot se ne wo) (TS A B (pool ++ [itm (.tup [.str [110, 111, 116], t]) ([110, 111, 116, 32] ++ prN c L) 5])) := by
    have e5 : ∀ g : Fa, sDrop (fBM isL mAppend (fVar 4) g) (TE x0 x1 at_ (D3 d0 d1 0) mk own lf rt (some t) (some (.str L)) (some (.int c)) ot se ne wo) (TS A B pool) = ((g (TE x0 x1 at_ (D3 d0 d1 0) mk own lf rt (some t) (some (.str L)) (some (.int c)) ot se ne wo) (TS A B pool)).bind (fun xs S2 => mAppend (.ref 3) xs S2)).out (TE x0 x1 at_ (D3 d0 d1 0) mk own lf rt (some t) (some (.str L)) (some (.int c)) ot se ne wo) fun _ S' => .nx (TE x0 x1 at_ (D3 d0 d1 0) mk own lf rt (some t) (some (.str L)) (some (.int c)) ot se ne wo) S' := fun _ => rfl
    unfold b__law_tree_3_2_0
    rw [e5, f2]
    have em : ∀ y : Vl, mAppend (.ref 3) [y] (TS A B pool) = .ok .non (TS A B (pool ++ [y])) := fun y => by
      show (if Nat.blt pool.length 16777216 then _ else _) = _
      rw [if_pos hb]
      rfl
    simp only [Rs.bind]
    rw [em]
    rfl
  have a1 : b__law_tree_3_2_1 (TE x0 x1 at_ (D3 d0 d1 0) mk own lf rt (some t) (some (.str L)) (some (.int c)) ot se ne wo) (TS A B (pool ++ [itm (.tup [.str [110, 111, 116], t]) ([110, 111, 116, 32] ++ prN c L) 5])) = .nx (TE x0 x1 at_ (D3 d0 d1 0) mk own lf rt (some (.tup [.str [110, 111, 116], t])) (some (.str ([110, 111, 116, 32] ++ prN c L))) (some (.int 5)) ot se ne wo) (TS A B pool) := by
    generalize hy : itm (.tup [.str [110, 111, 116], t]) ([110, 111, 116, 32] ++ prN c L) 5 = y
    have em : mPop (.ref 3) [] (TS A B (pool ++ [y])) = .ok y (TS A B pool) := by
      show (match (pool ++ [y])[(pool ++ [y]).length - 1]? with | some z => _ | none => _) = _
      have e1 : (pool ++ [y])[(pool ++ [y]).length - 1]? = some y := by simp
      rw [e1]
      show Rs.ok y (TS A B ((pool ++ [y]).take ((pool ++ [y]).length - 1))) = _
      have e2 : (pool ++ [y]).take ((pool ++ [y]).length - 1) = pool := by simp
      rw [e2]
    have ef : fBM0 isL mPop (fVar 4) (TE x0 x1 at_ (D3 d0 d1 0) mk own lf rt (some t) (some (.str L)) (some (.int c)) ot se ne wo) (TS A B (pool ++ [y])) = .ok y (TS A B pool) := em
    unfold b__law_tree_3_2_1 sAsg
    rw [ef, ← hy]
    rfl
  unfold b__law_tree_3_2 sIf
  rw [c0]
  simp only [Rs.out, if_true, sSeq, a0, a1]
theorem s3 {t : Vl} {L : Wd} {c : Int} : b__law_tree_3_3 (TE x0 x1 at_ dg mk own lf rt one fi cl ot se ne wo) (TS A B (itm t L c :: pool)) = .nx (TE x0 x1 at_ dg mk own lf rt one fi cl (some t) (some (.str L)) (some (.int c)) wo) (TS A B pool) := by
  have hx : PySem.seqIndex? 0 (itm t L c :: pool).length = some 0 := by
    unfold PySem.seqIndex?
    simp
  have em : mPopAt (.ref 3) [.int 0] (TS A B (itm t L c :: pool)) = .ok (itm t L c) (TS A B pool) := by
    show (match PySem.seqIndex? 0 (itm t L c :: pool).length with | some k => _ | none => _) = _
    rw [hx]
    rfl
  have ef : fBM isL mPopAt (fVar 4) (aCons (fC (.int 0)) aNil) (TE x0 x1 at_ dg mk own lf rt one fi cl ot se ne wo) (TS A B (itm t L c :: pool)) = .ok (itm t L c) (TS A B pool) := em
  unfold b__law_tree_3_3 sAsg
  rw [ef]
  rfl
theorem s4 {d0 d1 d2 : Int} (h : 0 ≤ d0 ∧ d0 < 10) (S : Sto) : ∃ w, w ∈ marks10 ∧ b__law_tree_3_4 (TE x0 x1 at_ (D3 d0 d1 d2) mk own lf rt one fi cl ot se ne wo) S = .nx (TE x0 x1 at_ (D3 d0 d1 d2) (some (.str w)) own lf rt one fi cl ot se ne wo) S := by
  have : d0 = 0 ∨ d0 = 1 ∨ d0 = 2 ∨ d0 = 3 ∨ d0 = 4 ∨ d0 = 5 ∨ d0 = 6 ∨ d0 = 7 ∨ d0 = 8 ∨ d0 = 9 := by omega
  rcases this with rfl | rfl | rfl | rfl | rfl | rfl | rfl | rfl | rfl | rfl
  · exact ⟨[60, 45, 62], by decide, by kernel_rfl⟩
  · exact ⟨[45, 62], by decide, by kernel_rfl⟩
  · exact ⟨[111, 114], by decide, by kernel_rfl⟩
  · exact ⟨[97, 110, 100], by decide, by kernel_rfl⟩
  · exact ⟨[61], by decide, by kernel_rfl⟩
  · exact ⟨[60], by decide, by kernel_rfl⟩
  · exact ⟨[105, 110], by decide, by kernel_rfl⟩
  · exact ⟨[43], by decide, by kernel_rfl⟩
  · exact ⟨[45], by decide, by kernel_rfl⟩
  · exact ⟨[42], by decide, by kernel_rfl⟩
theorem s5 {w : Wd} (hw : w ∈ marks10) : b__law_tree_3_5 (TE x0 x1 at_ dg (some (.str w)) own lf rt one fi cl ot se ne wo) (TS A B pool) = .nx (TE x0 x1 at_ dg (some (.str w)) (some (.int (pw w))) lf rt one fi cl ot se ne wo) (TS A B pool) := by
  simp only [marks10, List.mem_cons, List.not_mem_nil, or_false] at hw
  rcases hw with rfl | rfl | rfl | rfl | rfl | rfl | rfl | rfl | rfl | rfl <;> kernel_rfl
theorem s6 {L : Wd} {c o : Int} (hl : L.length < 10000) (S : Sto) : b__law_tree_3_6 (TE x0 x1 at_ dg mk (some (.int o)) lf rt one (some (.str L)) (some (.int c)) ot se ne wo) S = .nx (TE x0 x1 at_ dg mk (some (.int o)) (some (.str (prL c o L))) rt one (some (.str L)) (some (.int c)) ot se ne wo) S := by
  have c1 : fOr (fB (fOp (lift2 gGt) (fVar 13) (fVar 8))) (fAnd (fB (fOp (lift2 gEq) (fVar 13) (fVar 8))) (fB (fOp (lift2 gGt) (fVar 8) (fC (.int 6))))) (TE x0 x1 at_ dg mk (some (.int o)) lf rt one (some (.str L)) (some (.int c)) ot se ne wo) S = .ok (decide (o < c ∨ (c = o ∧ 6 < o))) S := by
    have a1 : fB (fOp (lift2 gGt) (fVar 13) (fVar 8)) (TE x0 x1 at_ dg mk (some (.int o)) lf rt one (some (.str L)) (some (.int c)) ot se ne wo) S = .ok (decide (o < c)) S := rfl
    have a2 : fB (fOp (lift2 gEq) (fVar 13) (fVar 8)) (TE x0 x1 at_ dg mk (some (.int o)) lf rt one (some (.str L)) (some (.int c)) ot se ne wo) S = .ok (c == o) S := rfl
    have a3 : fB (fOp (lift2 gGt) (fVar 8) (fC (.int 6))) (TE x0 x1 at_ dg mk (some (.int o)) lf rt one (some (.str L)) (some (.int c)) ot se ne wo) S = .ok (decide (6 < o)) S := rfl
    unfold fOr fAnd
    rw [a1]
    simp only [Rs.bind]
    rw [a2]
    by_cases q1 : o < c
    · simp [Rs.bind, q1]
    · by_cases q2 : c = o
      · subst q2
        simp only [beq_self_eq_true, if_true, a3]
        simp
      · have : (c == o) = false := by rw [beq_eq_false_iff_ne]; exact q2
        simp [Rs.bind, q1, q2, this]
  unfold b__law_tree_3_6 sAsg fIf
  rw [c1]
  simp only [Rs.bind]
  unfold prL
  by_cases q : o < c ∨ (c = o ∧ 6 < o)
  · rw [decide_eq_true q, if_pos rfl, if_pos q]
    rfl
  · rw [decide_eq_false q, if_neg (by decide), if_neg q, fBrk (i := 12) rfl hl]
    rfl
theorem s7 {L : Wd} {c o : Int} (hl : L.length < 10000) (S : Sto) : b__law_tree_3_7 (TE x0 x1 at_ dg mk (some (.int o)) lf rt one fi cl ot (some (.str L)) (some (.int c)) wo) S = .nx (TE x0 x1 at_ dg mk (some (.int o)) lf (some (.str (prR c o L))) one fi cl ot (some (.str L)) (some (.int c)) wo) S := by
  have c1 : fOr (fB (fOp (lift2 gGt) (fVar 16) (fVar 8))) (fAnd (fB (fOp (lift2 gEq) (fVar 16) (fVar 8))) (fB (fOp (lift2 gLt) (fVar 8) (fC (.int 6))))) (TE x0 x1 at_ dg mk (some (.int o)) lf rt one fi cl ot (some (.str L)) (some (.int c)) wo) S = .ok (decide (o < c ∨ (c = o ∧ o < 6))) S := by
    have a1 : fB (fOp (lift2 gGt) (fVar 16) (fVar 8)) (TE x0 x1 at_ dg mk (some (.int o)) lf rt one fi cl ot (some (.str L)) (some (.int c)) wo) S = .ok (decide (o < c)) S := rfl
    have a2 : fB (fOp (lift2 gEq) (fVar 16) (fVar 8)) (TE x0 x1 at_ dg mk (some (.int o)) lf rt one fi cl ot (some (.str L)) (some (.int c)) wo) S = .ok (c == o) S := rfl
    have a3 : fB (fOp (lift2 gLt) (fVar 8) (fC (.int 6))) (TE x0 x1 at_ dg mk (some (.int o)) lf rt one fi cl ot (some (.str L)) (some (.int c)) wo) S = .ok (decide (o < 6)) S := rfl
    unfold fOr fAnd
    rw [a1]
    simp only [Rs.bind]
    rw [a2]
    by_cases q1 : o < c
    · simp [Rs.bind, q1]
    · by_cases q2 : c = o
      · subst q2
        simp only [beq_self_eq_true, if_true, a3]
        simp
      · have : (c == o) = false := by rw [beq_eq_false_iff_ne]; exact q2
        simp [Rs.bind, q1, q2, this]
  unfold b__law_tree_3_7 sAsg fIf
  rw [c1]
  simp only [Rs.bind]
  unfold prR
  by_cases q : o < c ∨ (c = o ∧ o < 6)
  · rw [decide_eq_true q, if_pos rfl, if_pos q]
    rfl
  · rw [decide_eq_false q, if_neg (by decide), if_neg q, fBrk (i := 15) rfl hl]
    rfl
theorem s8 {w a b : Wd} {o : Int} {t u : Vl} (hl : pool.length < 100) (ha : a.length < 10000) (hb : b.length < 10000) (hw : w.length ≤ 3) : b__law_tree_3_8 (TE x0 x1 at_ dg (some (.str w)) (some (.int o)) (some (.str a)) (some (.str b)) (some t) fi cl (some u) se ne wo) (TS A B pool)
    = .nx (TE x0 x1 at_ dg (some (.str w)) (some (.int o)) (some (.str a)) (some (.str b)) (some t) fi cl (some u) se ne wo) (TS A B (pool ++ [itm (.tup [.str [98, 105, 110], .str w, t, u]) ((((a ++ [32]) ++ w) ++ [32]) ++ b) o])) := by
  have hp : Nat.blt pool.length 16777216 = true := Nat.ble_eq_true_of_le (by omega)
  have e1 := sadd (a := a) (b := [32]) (by simp; omega) (TS A B pool)
  have e2 := sadd (a := a ++ [32]) (b := w) (by simp; omega) (TS A B pool)
  have e3 := sadd (a := (a ++ [32]) ++ w) (b := [32]) (by simp; omega) (TS A B pool)
  have e4 := sadd (a := ((a ++ [32]) ++ w) ++ [32]) (b := b) (by simp; omega) (TS A B pool)
  have f1 : fOp (lift2F gAdd) (fOp (lift2F gAdd) (fOp (lift2F gAdd) (fOp (lift2F gAdd) (fVar 9) (fC (.str [32]))) (fVar 7)) (fC (.str [32]))) (fVar 10) (TE x0 x1 at_ dg (some (.str w)) (some (.int o)) (some (.str a)) (some (.str b)) (some t) fi cl (some u) se ne wo) (TS A B pool) = .ok (.str ((((a ++ [32]) ++ w) ++ [32]) ++ b)) (TS A B pool) := by
    show ((((lift2F gAdd (.str a) (.str [32]) (TS A B pool)).bind fun x S2 => lift2F gAdd x (.str w) S2).bind fun x S2 => lift2F gAdd x (.str [32]) S2).bind fun x S2 => lift2F gAdd x (.str b) S2) = _
    rw [e1]
    simp only [Rs.bind]
    rw [e2]
    simp only
    rw [e3]
    simp only
    rw [e4]
  have f2 : ∀ g : Fe, (aCons (fTup (aCons (fTup (aCons (fC (.str [98, 105, 110])) (aCons (fVar 7) (aCons (fVar 11) (aCons (fVar 14) aNil))))) (aCons g (aCons (fVar 8) aNil)))) aNil) (TE x0 x1 at_ dg (some (.str w)) (some (.int o)) (some (.str a)) (some (.str b)) (some t) fi cl (some u) se ne wo) (TS A B pool)
      = ((g (TE x0 x1 at_ dg (some (.str w)) (some (.int o)) (some (.str a)) (some (.str b)) (some t) fi cl (some u) se ne wo) (TS A B pool)).bind fun y S2 => (Rs.ok [.tup [.tup [.str [98, 105, 110], .str w, t, u], y, .int o]] S2 : Rs (List Vl))) := fun g => by
    cases hg : g (TE x0 x1 at_ dg (some (.str w)) (some (.int o)) (some (.str a)) (some (.str b)) (some t) fi cl (some u) se ne wo) (TS A B pool) <;> simp [aCons, fTup, fC, fVar, aNil, Rs.bind, hg]
  have e5 : ∀ g : Fa, sDrop (fBM isL mAppend (fVar 4) g) (TE x0 x1 at_ dg (some (.str w)) (some (.int o)) (some (.str a)) (some (.str b)) (some t) fi cl (some u) se ne wo) (TS A B pool) = ((g (TE x0 x1 at_ dg (some (.str w)) (some (.int o)) (some (.str a)) (some (.str b)) (some t) fi cl (some u) se ne wo) (TS A B pool)).bind (fun xs S2 => mAppend (.ref 3) xs S2)).out (TE x0 x1 at_ dg (some (.str w)) (some (.int o)) (some (.str a)) (some (.str b)) (some t) fi cl (some u) se ne wo) fun _ S' => .nx (TE x0 x1 at_ dg (some (.str w)) (some (.int o)) (some (.str a)) (some (.str b)) (some t) fi cl (some u) se ne wo) S' := fun _ => rfl
  unfold b__law_tree_3_8
  rw [e5, f2, f1]
  have em : ∀ y : Vl, mAppend (.ref 3) [y] (TS A B pool) = .ok .non (TS A B (pool ++ [y])) := fun y => by
    show (if Nat.blt pool.length 16777216 then _ else _) = _
    rw [if_pos hp]
    rfl
  simp only [Rs.bind]
  rw [em]
  rfl
end
end SL.K06
set_option Elab.async false
set_option linter.all false
set_option maxRecDepth 100000
namespace SL.K06
open PySem DL
/-- what stands in the pool after i turns -/
def Item (i : Nat) (x : Vl) : Prop := ∃ t L c W, x = itm t L c ∧ It (2 + 8 * i) (1 + 2 * i) (10 * 4 ^ i) t L c W
theorem Item.up {i : Nat} {x : Vl} (h : Item i x) : Item (i + 1) x := by
  obtain ⟨t, L, c, W, rfl, h⟩ := h
  refine ⟨t, L, c, W, rfl, h.mono (by omega) (by omega) ?_⟩
  rw [Nat.pow_succ]
  omega
theorem pow_le {i : Nat} (h : i ≤ 4) : 10 ≤ 10 * 4 ^ i ∧ 10 * 4 ^ i ≤ 2560 := by
  have : i = 0 ∨ i = 1 ∨ i = 2 ∨ i = 3 ∨ i = 4 := by omega
  rcases this with rfl | rfl | rfl | rfl | rfl <;> decide
def bodyL : Fs := sSeq b__law_tree_3_0 (sSeq b__law_tree_3_1 (sSeq b__law_tree_3_2 (sSeq b__law_tree_3_3 (sSeq b__law_tree_3_4 (sSeq b__law_tree_3_5 (sSeq b__law_tree_3_6 (sSeq b__law_tree_3_7 b__law_tree_3_8)))))))
/-- one turn -/
theorem turn {x1 dg mk own lf rt one fi cl ot se ne wo : Option Vl} {A B : AObj} {pool : List Vl} (ns : List Int) (i : Nat) (hi : i ≤ 3) (hp : ∀ x ∈ pool, Item i x) (h2 : 2 ≤ pool.length) (hl : pool.length < 50) :
    ∃ (dg' mk' own' lf' rt' one' fi' cl' ot' se' ne' : Option Vl) (pool' : List Vl), pool'.length + 1 = pool.length ∧ (∀ x ∈ pool', Item (i + 1) x) ∧
      bodyL (TE (some (.fz (ns.map .int))) x1 (some (.int (0 + (i : Nat)))) dg mk own lf rt one fi cl ot se ne wo) (TS A B pool) = .nx (TE (some (.fz (ns.map .int))) x1 (some (.int (0 + (i : Nat)))) dg' mk' own' lf' rt' one' fi' cl' ot' se' ne' wo) (TS A B pool') := by
  obtain ⟨hb1, hb2⟩ := pow_le (i := i) (by omega)
  obtain ⟨d0, d1, d2, hd0, hd1, e0⟩ := s0 (x1 := x1) (dg := dg) (mk := mk) (own := own) (lf := lf) (rt := rt) (one := one) (fi := fi) (cl := cl) (ot := ot) (se := se) (ne := ne) (wo := wo) (A := A) (B := B) (pool := pool) ns i
  have hm0 : 0 ≤ d1 % (pool.length : Nat) := Int.emod_nonneg _ (by omega)
  have hm1 : d1 % (pool.length : Nat) < (pool.length : Nat) := Int.emod_lt_of_pos _ (by omega)
  obtain ⟨j, hj⟩ := Int.eq_ofNat_of_zero_le hm0
  have hjl : j < pool.length := by omega
  obtain ⟨t, L, c, W, hx, it1⟩ := hp pool[j] (List.getElem_mem hjl)
  have hg : pool[j]? = some (itm t L c) := by rw [List.getElem?_eq_getElem hjl, hx]
  have e1 := s1 (x0 := some (.fz (ns.map .int))) (x1 := x1) (at_ := some (.int (0 + (i : Nat)))) (mk := mk) (own := own) (lf := lf) (rt := rt) (one := one) (fi := fi) (cl := cl) (ot := ot) (se := se) (ne := ne) (wo := wo) (A := A) (B := B) (d0 := d0) (d2 := d2) hj hg (by omega)
  have hl1 : (pool.eraseIdx j).length = pool.length - 1 := List.length_eraseIdx_of_lt hjl
  have hp1 : ∀ x ∈ pool.eraseIdx j, Item i x := fun x hx => hp x (List.mem_of_mem_eraseIdx hx)
  generalize pool.eraseIdx j = pool1 at e1 hl1 hp1
  have e2 : ∃ t' L' c' W', It (2 + 8 * i + 5) (1 + 2 * i + 1) (10 * 4 ^ i + 6) t' L' c' W' ∧
      b__law_tree_3_2 (TE (some (.fz (ns.map .int))) x1 (some (.int (0 + (i : Nat)))) (D3 d0 d1 d2) mk own lf rt (some t) (some (.str L)) (some (.int c)) ot se ne wo) (TS A B pool1) = .nx (TE (some (.fz (ns.map .int))) x1 (some (.int (0 + (i : Nat)))) (D3 d0 d1 d2) mk own lf rt (some t') (some (.str L')) (some (.int c')) ot se ne wo) (TS A B pool1) := by
    by_cases h0 : d2 = 0
    · subst h0
      obtain ⟨W', h'⟩ := it_prN it1
      exact ⟨_, _, _, W', h', s2_yes (by omega) (by have := it1.ln; omega)⟩
    · exact ⟨t, L, c, W, it1.mono (by omega) (by omega) (by omega), s2_no h0⟩
  obtain ⟨t', L', c', W', it2, e2⟩ := e2
  match pool1, hl1, hp1, e1, e2 with
  | [], hl1, _, _, _ => simp at hl1; omega
  | y :: pool2, hl1, hp1, e1, e2 =>
    obtain ⟨u, M, k, V, rfl, it3⟩ := hp1 y (by simp)
    have hq : pool2.length + 2 = pool.length := by simp at hl1; omega
    have e3 := s3 (x0 := some (.fz (ns.map .int))) (x1 := x1) (at_ := some (.int (0 + (i : Nat)))) (dg := D3 d0 d1 d2) (mk := mk) (own := own) (lf := lf) (rt := rt) (one := some t') (fi := some (.str L')) (cl := some (.int c')) (ot := ot) (se := se) (ne := ne) (wo := wo) (A := A) (B := B) (pool := pool2) (t := u) (L := M) (c := k)
    obtain ⟨w, hw, e4⟩ := s4 (x0 := some (.fz (ns.map .int))) (x1 := x1) (at_ := some (.int (0 + (i : Nat)))) (mk := mk) (own := own) (lf := lf) (rt := rt) (one := some t') (fi := some (.str L')) (cl := some (.int c')) (ot := some u) (se := some (.str M)) (ne := some (.int k)) (wo := wo) (d1 := d1) (d2 := d2) hd0 (TS A B pool2)
    have e5 := s5 (x0 := some (.fz (ns.map .int))) (x1 := x1) (at_ := some (.int (0 + (i : Nat)))) (dg := D3 d0 d1 d2) (own := own) (lf := lf) (rt := rt) (one := some t') (fi := some (.str L')) (cl := some (.int c')) (ot := some u) (se := some (.str M)) (ne := some (.int k)) (wo := wo) (A := A) (B := B) (pool := pool2) hw
    have hL' : L'.length < 9000 := by have := it2.ln; omega
    have hM : M.length < 9000 := by have := it3.ln; omega
    have e6 := s6 (x0 := some (.fz (ns.map .int))) (x1 := x1) (at_ := some (.int (0 + (i : Nat)))) (dg := D3 d0 d1 d2) (mk := some (.str w)) (lf := lf) (rt := rt) (one := some t') (ot := some u) (se := some (.str M)) (ne := some (.int k)) (wo := wo) (L := L') (c := c') (o := pw w) (by omega) (TS A B pool2)
    have e7 := s7 (x0 := some (.fz (ns.map .int))) (x1 := x1) (at_ := some (.int (0 + (i : Nat)))) (dg := D3 d0 d1 d2) (mk := some (.str w)) (lf := some (.str (prL c' (pw w) L'))) (rt := rt) (one := some t') (fi := some (.str L')) (cl := some (.int c')) (ot := some u) (wo := wo) (L := M) (c := k) (o := pw w) (by omega) (TS A B pool2)
    have hA : (prL c' (pw w) L').length < 10000 := by
      unfold prL brk
      split
      · omega
      · simp
        omega
    have hB : (prR k (pw w) M).length < 10000 := by
      unfold prR brk
      split
      · omega
      · simp
        omega
    have e8 := s8 (x0 := some (.fz (ns.map .int))) (x1 := x1) (at_ := some (.int (0 + (i : Nat)))) (dg := D3 d0 d1 d2) (fi := some (.str L')) (cl := some (.int c')) (se := some (.str M)) (ne := some (.int k)) (wo := wo) (A := A) (B := B) (pool := pool2) (w := w) (a := prL c' (pw w) L') (b := prR k (pw w) M) (o := pw w) (t := t') (u := u) (by omega) hA hB (marks_lt w hw).2.1
    obtain ⟨X, hX⟩ := it_prB it2 (it3.mono (Nat.le_refl _) (by omega) (Nat.le_refl _)) hw
    refine ⟨D3 d0 d1 d2, some (.str w), some (.int (pw w)), some (.str (prL c' (pw w) L')), some (.str (prR k (pw w) M)), some t', some (.str L'), some (.int c'), some u, some (.str M), some (.int k), pool2 ++ [itm (.tup [.str [98, 105, 110], .str w, t', u]) ((((prL c' (pw w) L' ++ [32]) ++ w) ++ [32]) ++ prR k (pw w) M) (pw w)], ?_, fun x hx => ?_, ?_⟩
    · simp
      omega
    · rcases List.mem_append.mp hx with hx | hx
      · exact (hp1 x (by simp [hx])).up
      · have : x = itm (.tup [.str [98, 105, 110], .str w, t', u]) ((((prL c' (pw w) L' ++ [32]) ++ w) ++ [32]) ++ prR k (pw w) M) (pw w) := by simpa using hx
        refine ⟨_, _, _, X, this, hX.mono (by omega) (by omega) ?_⟩
        rw [Nat.pow_succ]
        omega
    · unfold bodyL
      simp only [sSeq, e0, e1, e2, e3, e4, e5, e6, e7, e8]
theorem rngV_at (n i : Nat) (h : i < n) : (rngV 0 n)[i]? = some (.int (0 + (i : Nat))) := by
  simp [rngV, h]
theorem rngV_len (n : Nat) : (rngV 0 n).length = n := by simp [rngV]
/-- all turns -/
theorem turns {x1 wo : Option Vl} {A B : AObj} (ns : List Int) (n : Nat) (hn : n ≤ 4) : ∀ (q i m : Nat) (at_ dg mk own lf rt one fi cl ot se ne : Option Vl) (pool : List Vl), i + q = n → q < m → pool.length = q + 1 → (∀ x ∈ pool, Item i x) →
    ∃ (at' dg' mk' own' lf' rt' one' fi' cl' ot' se' ne' : Option Vl) (x : Vl), Item n x ∧
      forS (.fix (rngV 0 n)) (gN 5) bodyL m i (TE (some (.fz (ns.map .int))) x1 at_ dg mk own lf rt one fi cl ot se ne wo) (TS A B pool) = .nx (TE (some (.fz (ns.map .int))) x1 at' dg' mk' own' lf' rt' one' fi' cl' ot' se' ne' wo) (TS A B [x])
  | 0, i, m, at_, dg, mk, own, lf, rt, one, fi, cl, ot, se, ne, pool, hi, hm, hl, hp => by
    obtain ⟨m, rfl⟩ : ∃ m', m = m' + 1 := ⟨m - 1, by omega⟩
    have hi' : i = n := by omega
    match pool, hl with
    | [x], _ =>
      refine ⟨at_, dg, mk, own, lf, rt, one, fi, cl, ot, se, ne, x, by rw [← hi']; exact hp x (by simp), ?_⟩
      have h1 : (rngV 0 n)[i]? = none := List.getElem?_eq_none (by rw [rngV_len]; omega)
      have h2 : Nat.beq i (rngV 0 n).length = true := by rw [rngV_len, hi']; simp
      simp only [forS, Src.nxt, h1, h2, if_true]
  | q + 1, i, m, at_, dg, mk, own, lf, rt, one, fi, cl, ot, se, ne, pool, hi, hm, hl, hp => by
    obtain ⟨m, rfl⟩ : ∃ m', m = m' + 1 := ⟨m - 1, by omega⟩
    have h1 := rngV_at n i (by omega)
    obtain ⟨dg1, mk1, own1, lf1, rt1, one1, fi1, cl1, ot1, se1, ne1, pool1, hl1, hp1, e1⟩ := turn (x1 := x1) (dg := dg) (mk := mk) (own := own) (lf := lf) (rt := rt) (one := one) (fi := fi) (cl := cl) (ot := ot) (se := se) (ne := ne) (wo := wo) (A := A) (B := B) ns i (by omega) hp (by omega) (by omega)
    obtain ⟨at2, dg2, mk2, own2, lf2, rt2, one2, fi2, cl2, ot2, se2, ne2, x, hx, e2⟩ := turns (x1 := x1) (wo := wo) (A := A) (B := B) ns n hn q (i + 1) m (some (.int (0 + (i : Nat)))) dg1 mk1 own1 lf1 rt1 one1 fi1 cl1 ot1 se1 ne1 pool1 (by omega) (by omega) (by omega) hp1
    refine ⟨at2, dg2, mk2, own2, lf2, rt2, one2, fi2, cl2, ot2, se2, ne2, x, hx, ?_⟩
    rw [← e2]
    have hg : gN 5 (.int (0 + (i : Nat))) (TE (some (.fz (ns.map .int))) x1 at_ dg mk own lf rt one fi cl ot se ne wo) = some (TE (some (.fz (ns.map .int))) x1 (some (.int (0 + (i : Nat)))) dg mk own lf rt one fi cl ot se ne wo) := rfl
    rw [forS]
    simp only [Src.nxt, h1, hg, e1]
def ini (k : Nat) : List Vl := (names5.take k).map fun w => itm (nmV w) w 9
theorem start (x0 : Vl) (k : Nat) (hk : 2 ≤ k ∧ k ≤ 5) : ∃ (A B : AObj), sSeq b__law_tree_0 (sSeq b__law_tree_1 b__law_tree_2) [some x0, some (.int (k : Nat)), none, none, none, none, none, none, none, none, none, none, none, none, none, none, none, none] [] = .nx (TE (some x0) (some (.int (k : Nat))) none none none none none none none none none none none none none) (TS A B (ini k)) := by
  have : k = 2 ∨ k = 3 ∨ k = 4 ∨ k = 5 := by omega
  rcases this with rfl | rfl | rfl | rfl
  · exact ⟨.lst (names5.map .str), .lst ((names5.take 2).map .str), by kernel_rfl⟩
  · exact ⟨.lst (names5.map .str), .lst ((names5.take 3).map .str), by kernel_rfl⟩
  · exact ⟨.lst (names5.map .str), .lst ((names5.take 4).map .str), by kernel_rfl⟩
  · exact ⟨.lst (names5.map .str), .lst ((names5.take 5).map .str), by kernel_rfl⟩
theorem tree_sem (ns : List Int) (k : Nat) (hk : 2 ≤ k ∧ k ≤ 5) (S : Sto) : ∃ t L c W, It 34 9 2560 t L c W ∧ m__law_tree [.fz (ns.map .int), .int (k : Nat)] S = .ok (.tup [t, .str L]) S := by
  obtain ⟨A, B, e0⟩ := start (.fz (ns.map .int)) k hk
  have hini : ∀ x ∈ ini k, Item 0 x := fun x hx => by
    obtain ⟨w, hw, rfl⟩ := List.mem_map.mp hx
    exact ⟨_, _, _, _, rfl, it_name (List.mem_of_mem_take hw)⟩
  have hlen : (ini k).length = k - 1 + 1 := by
    have : k = 2 ∨ k = 3 ∨ k = 4 ∨ k = 5 := by omega
    rcases this with rfl | rfl | rfl | rfl <;> rfl
  obtain ⟨a1, a2, a3, a4, a5, a6, a7, a8, a9, a10, a11, a12, x, hx, e1⟩ := turns (x1 := some (.int (k : Nat))) (wo := none) (A := A) (B := B) ns (k - 1) (by omega) (k - 1) 0 1000000 none none none none none none none none none none none none (ini k) (by omega) (by omega) hlen hini
  obtain ⟨t, L, c, W, rfl, it⟩ := hx
  have hp : 10 * 4 ^ (k - 1) ≤ 2560 := (pow_le (i := k - 1) (by omega)).2
  refine ⟨t, L, c, W, it.mono (by omega) (by omega) hp, ?_⟩
  have e3 : b__law_tree_3 (TE (some (.fz (ns.map .int))) (some (.int (k : Nat))) none none none none none none none none none none none none none) (TS A B (ini k)) = .nx (TE (some (.fz (ns.map .int))) (some (.int (k : Nat))) a1 a2 a3 a4 a5 a6 a7 a8 a9 a10 a11 a12 none) (TS A B [itm t L c]) := by
    rw [← e1]
    have er : (iR1 (aCons (fOp (lift2 gSub) (fVar 1) (fC (.int 1))) aNil)) (TE (some (.fz (ns.map .int))) (some (.int (k : Nat))) none none none none none none none none none none none none none) (TS A B (ini k)) = .ok (.fix (rngV 0 (k - 1))) (TS A B (ini k)) := by
      have : k = 2 ∨ k = 3 ∨ k = 4 ∨ k = 5 := by omega
      rcases this with rfl | rfl | rfl | rfl <;> kernel_rfl
    have e7 : b__law_tree_3 = sFor (iR1 (aCons (fOp (lift2 gSub) (fVar 1) (fC (.int 1))) aNil)) (gN 5) bodyL := by kernel_rfl
    rw [e7]
    unfold sFor
    rw [er]
    simp only [Rs.out]
  have e4 : b__law_tree_4 (TE (some (.fz (ns.map .int))) (some (.int (k : Nat))) a1 a2 a3 a4 a5 a6 a7 a8 a9 a10 a11 a12 none) (TS A B [itm t L c]) = .rt (.tup [t, .str L]) (TS A B [itm t L c]) := rfl
  have e5 : defS 2 18 b__law_tree [.fz (ns.map .int), .int (k : Nat)] [] = .ok (.tup [t, .str L]) (TS A B [itm t L c]) := by
    have e6 : b__law_tree [some (.fz (ns.map .int)), some (.int (k : Nat)), none, none, none, none, none, none, none, none, none, none, none, none, none, none, none, none] [] = .rt (.tup [t, .str L]) (TS A B [itm t L c]) := by
      have ea : ∀ (f1 f2 f3 g : Fs) (env : SEnv) (S : Sto), sSeq f1 (sSeq f2 (sSeq f3 g)) env S = sSeq (sSeq f1 (sSeq f2 f3)) g env S := fun f1 f2 f3 g env S => by
        simp only [sSeq]
        cases f1 env S <;> simp only []
        rename_i e S'
        cases f2 e S' <;> simp only []
      unfold b__law_tree
      rw [ea]
      generalize sSeq b__law_tree_0 (sSeq b__law_tree_1 b__law_tree_2) = F at e0
      simp only [sSeq, e0, e3, e4]
    show runS b__law_tree [some (.fz (ns.map .int)), some (.int (k : Nat)), none, none, none, none, none, none, none, none, none, none, none, none, none, none, none, none] [] = _
    unfold runS
    rw [e6]
  have hf : frz0s [.fz (ns.map .int), .int (k : Nat)] = true := by
    simp only [frz0s, frz0, Bool.and_true]
    clear e0 e1 e3 e4 e5
    induction ns with
    | nil => rfl
    | cons x X ih => simp [frz0s, frz0, ih]
  obtain ⟨d, _, _, _, _, hn, _⟩ := it.td
  unfold m__law_tree iso
  rw [if_pos hf, e5]
  simp only [noL, noLs, hn, Bool.and_self, if_true]
end SL.K06
set_option Elab.async false
set_option linter.all false
set_option maxRecDepth 100000
namespace SL.K06
open PySem DL
open DK06 (InR)
theorem sSeq_assoc (f g h : Fs) : sSeq (sSeq f g) h = sSeq f (sSeq g h) := by
  funext env S
  simp only [sSeq]
  cases f env S <;> simp only []
def cst (f : Fs) (i : Nat) (env : SEnv) : Option Vl := match f env [] with
  | .nx e _ => (e[i]?).join
  | _ => none
def n12 : SEnv := List.replicate 12 none
def sA : Fs := sSeq b_law_3 (sSeq b_law_4 (sSeq b_law_5 (sSeq b_law_6 (sSeq b_law_7 (sSeq b_law_8 (sSeq b_law_9 (sSeq b_law_10 (sSeq b_law_11 (sSeq b_law_12 b_law_13)))))))))
def sB : Fs := sSeq b_law_14 b_law_15
def sC : Fs := sSeq b_law_16 b_law_17
def sD : Fs := sSeq b_law_18 b_law_19
theorem law_split : b_law = sSeq b_law_0 (sSeq b_law_1 (sSeq b_law_2 (sSeq sA (sSeq sB (sSeq sC sD))))) := by
  unfold sA sB sC sD b_law
  simp only [sSeq_assoc]
def A4 : Option Vl := cst sA 4 n12
def A5 : Option Vl := cst sA 5 n12
def A6 : Option Vl := cst sA 6 n12
def A7 : Option Vl := cst sA 7 n12
theorem partA (x0 x1 x2 x3 : Option Vl) : sA [x0, x1, x2, x3, none, none, none, none, none, none, none, none] [] = .nx [x0, x1, x2, x3, A4, A5, A6, A7, none, none, none, none] [] := by kernel_rfl
def shV (i : Int) : Option Vl := cst b_law_14 8 [none, D3 0 i 0, none, none, A4, A5, A6, A7, none, none, none, none]
def duV (i : Int) : Option Vl := cst b_law_14 9 [none, D3 0 i 0, none, none, A4, A5, A6, A7, none, none, none, none]
def partBat (i : Int) : Prop := ∀ (x0 x2 x3 : Option Vl) (d0 d2 : Int), sB [x0, D3 d0 i d2, x2, x3, A4, A5, A6, A7, none, none, none, none] [] = .nx [x0, D3 d0 i d2, x2, x3, A4, A5, A6, A7, shV i, duV i, none, none] []
theorem partB0 : partBat 0 := fun x0 x2 x3 d0 d2 => by kernel_rfl
theorem partB1 : partBat 1 := fun x0 x2 x3 d0 d2 => by kernel_rfl
theorem partB2 : partBat 2 := fun x0 x2 x3 d0 d2 => by kernel_rfl
theorem partB3 : partBat 3 := fun x0 x2 x3 d0 d2 => by kernel_rfl
theorem partB4 : partBat 4 := fun x0 x2 x3 d0 d2 => by kernel_rfl
theorem partB5 : partBat 5 := fun x0 x2 x3 d0 d2 => by kernel_rfl
theorem partB6 : partBat 6 := fun x0 x2 x3 d0 d2 => by kernel_rfl
theorem partB7 : partBat 7 := fun x0 x2 x3 d0 d2 => by kernel_rfl
theorem partB8 : partBat 8 := fun x0 x2 x3 d0 d2 => by kernel_rfl
theorem partB9 : partBat 9 := fun x0 x2 x3 d0 d2 => by kernel_rfl
theorem partB10 : partBat 10 := fun x0 x2 x3 d0 d2 => by kernel_rfl
theorem partB11 : partBat 11 := fun x0 x2 x3 d0 d2 => by kernel_rfl
theorem partB12 : partBat 12 := fun x0 x2 x3 d0 d2 => by kernel_rfl
theorem partB13 : partBat 13 := fun x0 x2 x3 d0 d2 => by kernel_rfl
theorem partB {i : Int} (h : 0 ≤ i ∧ i < 14) : partBat i := by
  have : i = 0 ∨ i = 1 ∨ i = 2 ∨ i = 3 ∨ i = 4 ∨ i = 5 ∨ i = 6 ∨ i = 7 ∨ i = 8 ∨ i = 9 ∨ i = 10 ∨ i = 11 ∨ i = 12 ∨ i = 13 := by omega
  rcases this with rfl | rfl | rfl | rfl | rfl | rfl | rfl | rfl | rfl | rfl | rfl | rfl | rfl | rfl
  · exact partB0
  · exact partB1
  · exact partB2
  · exact partB3
  · exact partB4
  · exact partB5
  · exact partB6
  · exact partB7
  · exact partB8
  · exact partB9
  · exact partB10
  · exact partB11
  · exact partB12
  · exact partB13
theorem partC (x0 x1 x2 x3 x4 x5 x6 x7 x8 x9 : Option Vl) : sC [x0, x1, x2, x3, x4, x5, x6, x7, x8, x9, none, none] [] = .nx [x0, x1, x2, x3, x4, x5, x6, x7, x8, x9, some (.bl true), none] [] := by kernel_rfl
def partDat (i : Int) : Prop := ∀ (x0 x2 x3 x4 x5 x6 x7 x8 x9 : Option Vl) (d0 d1 : Int), sD [x0, D3 d0 d1 i, x2, x3, x4, x5, x6, x7, x8, x9, some (.bl true), none] [] = .rt (.bl true) []
theorem partD {i : Int} (h : 0 ≤ i ∧ i < 12) : partDat i := by
  have : i = 0 ∨ i = 1 ∨ i = 2 ∨ i = 3 ∨ i = 4 ∨ i = 5 ∨ i = 6 ∨ i = 7 ∨ i = 8 ∨ i = 9 ∨ i = 10 ∨ i = 11 := by omega
  rcases this with rfl | rfl | rfl | rfl | rfl | rfl | rfl | rfl | rfl | rfl | rfl | rfl <;> exact fun x0 x2 x3 x4 x5 x6 x7 x8 x9 d0 d1 => by kernel_rfl
theorem ne_same {e : Nat} {t : Vl} (h : TD e t) (he : e ≤ 60) (S : Sto) : lift2 gNe t t S = .ok (.bl false) S := by
  obtain ⟨d, a1, a2, a3, a4, _, _⟩ := h
  have hs : d.shp = true := by
    unfold Dt.shp
    rw [a2, Bool.true_and]
    exact Nat.ble_eq_true_of_le (by omega)
  simp [lift2, a1, gNe, hs, a4, upR, ofDt]
theorem law_true (ns : List Int) : ∃ S', m_law [.fz (ns.map .int)] [] = .ok (.bl true) S' := by
  refine ⟨[], ?_⟩
  obtain ⟨ds, ⟨hl, hr⟩, h2⟩ := draw_fz ns [4, 14, 12] 0 (by decide) (by decide) []
  match ds, hl with
  | [d0, d1, d2], _ =>
    have r0 := hr 0 d0 4 rfl rfl
    have r1 := hr 1 d1 14 rfl rfl
    have r2 := hr 2 d2 12 rfl rfl
    have e0 : b_law_0 [some (.fz (ns.map .int)), none, none, none, none, none, none, none, none, none, none, none] [] = .nx [some (.fz (ns.map .int)), D3 d0 d1 d2, none, none, none, none, none, none, none, none, none, none] [] := by
      have ea : (aCons (fVar 0) (aCons (fC (.int 0)) (aCons (fLstF (aCons (fC (.int 4)) (aCons (fC (.int 14)) (aCons (fC (.int 12)) aNil)))) aNil))) [some (.fz (ns.map .int)), none, none, none, none, none, none, none, none, none, none, none] []
          = .ok [.fz (ns.map .int), .int ((0 : Nat) : Int), .fz ([4, 14, 12].map .int)] [] := rfl
      unfold b_law_0 sAsg fCall
      rw [ea]
      simp only [Rs.bind]
      rw [h2]
      rfl
    obtain ⟨k, hk⟩ := Int.eq_ofNat_of_zero_le (show 0 ≤ d0 + 2 by omega)
    obtain ⟨t, L, c, W, it, e⟩ := tree_sem ns k (by omega) []
    have e1 : b_law_1 [some (.fz (ns.map .int)), D3 d0 d1 d2, none, none, none, none, none, none, none, none, none, none] [] = .nx [some (.fz (ns.map .int)), D3 d0 d1 d2, some t, some (.str L), none, none, none, none, none, none, none, none] [] := by
      have ea : (aCons (fVar 0) (aCons (fOp (lift2F gAdd) (fOp SL.gIx (fVar 1) (fC (.int 0))) (fC (.int 2))) aNil)) [some (.fz (ns.map .int)), D3 d0 d1 d2, none, none, none, none, none, none, none, none, none, none] [] = .ok [.fz (ns.map .int), .int (d0 + 2)] [] := rfl
      unfold b_law_1 sAsg fCall
      rw [ea]
      simp only [Rs.bind]
      rw [hk, e]
      rfl
    have okx : ∀ {D e b : Nat} {t : Vl} {L : Wd} {c : Int} {W : List Wd}, It D e b t L c W → b < 10000 → Okx W := fun h hb => ⟨by have := h.wl; omega, h.vo⟩
    have run : ∀ {D e b : Nat} {t : Vl} {L : Wd} {c : Int} {W : List Wd}, It D e b t L c W → D ≤ 59 → b < 10000 → m_parse_tree [.fz (W.map .str)] [] = .ok t [] ∧ m_words_of [.str L] [] = .ok (.fz (W.map .str)) [] := fun h hD hb => by
      obtain ⟨d, _, _, _, _, a5, a6⟩ := h.td
      exact ⟨parse_ok h.rd a6 a5 h.c1 hD (okx h hb) [], words_ok h.tx (by have := h.ln; omega) h.ok []⟩
    have it2 := it_br it
    obtain ⟨p1, w1⟩ := run it (by decide) (by decide)
    obtain ⟨p2, w2⟩ := run it2 (by decide) (by decide)
    have hne := ne_same it.td (by decide) []
    have e2 : b_law_2 [some (.fz (ns.map .int)), D3 d0 d1 d2, some t, some (.str L), none, none, none, none, none, none, none, none] [] = .nx [some (.fz (ns.map .int)), D3 d0 d1 d2, some t, some (.str L), none, none, none, none, none, none, none, none] [] := by
      have f1 : fB (fOp (lift2 gNe) (fCall m_parse_tree (aCons (fCall m_words_of (aCons (fVar 3) aNil)) aNil)) (fVar 2)) [some (.fz (ns.map .int)), D3 d0 d1 d2, some t, some (.str L), none, none, none, none, none, none, none, none] [] = .ok false [] := by
        show ((((((m_words_of [.str L] []).bind fun x S1 => (Rs.ok [x] S1 : Rs (List Vl))).bind m_parse_tree).bind fun x S1 => lift2 gNe x t S1)).bind fun x S1 => match x with
          | .bl b => .ok b S1
          | _ => .bad) = _
        rw [w1]
        simp only [Rs.bind]
        rw [p1]
        simp only
        rw [hne]
      have hB := fBrk (i := 3) (L := L) (env := [some (.fz (ns.map .int)), D3 d0 d1 d2, some t, some (.str L), none, none, none, none, none, none, none, none]) (S := []) rfl (by have := it.ln; omega)
      have f2 : fB (fOp (lift2 gNe) (fCall m_parse_tree (aCons (fCall m_words_of (aCons (fOp (lift2F gAdd) (fOp (lift2F gAdd) (fC (.str [40])) (fVar 3)) (fC (.str [41]))) aNil)) aNil)) (fVar 2)) [some (.fz (ns.map .int)), D3 d0 d1 d2, some t, some (.str L), none, none, none, none, none, none, none, none] [] = .ok false [] := by
        have g : ∀ g : Fe, fB (fOp (lift2 gNe) (fCall m_parse_tree (aCons (fCall m_words_of (aCons g aNil)) aNil)) (fVar 2)) [some (.fz (ns.map .int)), D3 d0 d1 d2, some t, some (.str L), none, none, none, none, none, none, none, none] []
            = ((((((((g [some (.fz (ns.map .int)), D3 d0 d1 d2, some t, some (.str L), none, none, none, none, none, none, none, none] []).bind fun x S1 => (Rs.ok [x] S1 : Rs (List Vl))).bind m_words_of).bind fun x S1 => (Rs.ok [x] S1 : Rs (List Vl))).bind m_parse_tree).bind fun x S1 => lift2 gNe x t S1)).bind fun x S1 => match x with
          | .bl b => .ok b S1
          | _ => .bad) := fun _ => rfl
        rw [g, hB]
        simp only [Rs.bind]
        have w2' : m_words_of [.str (brk L)] [] = _ := w2
        rw [w2']
        simp only
        rw [p2]
        simp only
        rw [hne]
      unfold b_law_2 sIf fOr
      rw [f1]
      simp only [Rs.bind, Bool.false_eq_true, if_false]
      rw [f2]
      rfl
    show runS b_law [some (.fz (ns.map .int)), none, none, none, none, none, none, none, none, none, none, none] [] = _
    unfold runS
    rw [law_split]
    simp only [sSeq, e0, e1, e2, partA, partB ⟨r1.1, r1.2⟩ _ _ _ _ _, partC, partD ⟨r2.1, r2.2⟩ _ _ _ _ _ _ _ _ _ _ _]
end SL.K06
set_option Elab.async false
set_option linter.all false
set_option maxRecDepth 100000
namespace SL.K06
open PySem PySem.Spec PyProof.Rows L2 DL He
def facts : List He.Fa := [.glo "is_name", .glo "is_number", .glo "words_of", .glo "parse_tree", .glo "_law_cell", .glo "_law_draw", .glo "_law_strictly", .glo "_law_tree", .glo "law", .glo "CLOSED", .glo "MARKS", .glo "RIGHT", .glo "EACH", .glo "NUMBERED", .glo "POWER", .glo "PLACES", .glo "Reading", .free "len", .free "all", .free "max", .free "int", .free "tuple", .free "range", .free "isinstance", .free "bool", .free "str", .free "list", .int "NAME" 12, .str "FIRST" ⟨DK06.z_FIRST.toArray⟩, .str "SIGNS" ⟨DK06.z_SIGNS.toArray⟩, .str "DIGITS" ⟨DK06.z_DIGITS.toArray⟩, .cls "Reading", .noat "Reading" "words", .noat "Reading" "at", .meth "Reading" "word", .meth "Reading" "takes", .meth "Reading" "tree", .meth "Reading" "first", .meth "Reading" "plain", .meth "Reading" "behind", .meth "Reading" "parts", .meth "Reading" "either", .meth "Reading" "each", .mkr "Reading"]
def defns : List DefD := [SL.mkD ("is_name", none) "is_name" "is_name" s_is_name, SL.mkD ("is_number", none) "is_number" "is_number" s_is_number, SL.mkD ("words_of", none) "words_of" "words_of" s_words_of, SL.mkD ("Reading", some "__init__") "__init__" "Reading.__init__" s_Reading___init__, SL.mkD ("Reading", some "word") "word" "Reading.word" s_Reading_word, SL.mkD ("Reading", some "takes") "takes" "Reading.takes" s_Reading_takes, SL.mkD ("Reading", some "tree") "tree" "Reading.tree" s_Reading_tree, SL.mkD ("Reading", some "first") "first" "Reading.first" s_Reading_first, SL.mkD ("Reading", some "plain") "plain" "Reading.plain" s_Reading_plain, SL.mkD ("Reading", some "behind") "behind" "Reading.behind" s_Reading_behind, SL.mkD ("Reading", some "parts") "parts" "Reading.parts" s_Reading_parts, SL.mkD ("Reading", some "either") "either" "Reading.either" s_Reading_either, SL.mkD ("Reading", some "each") "each" "Reading.each" s_Reading_each, SL.mkD ("parse_tree", none) "parse_tree" "parse_tree" s_parse_tree, SL.mkD ("_law_cell", none) "_law_cell" "_law_cell" s__law_cell, SL.mkD ("_law_draw", none) "_law_draw" "_law_draw" s__law_draw, SL.mkD ("_law_strictly", none) "_law_strictly" "_law_strictly" s__law_strictly, SL.mkD ("_law_tree", none) "_law_tree" "_law_tree" s__law_tree, SL.mkD ("law", none) "law" "law" s_law]
def tabs : List Tab := [(fun K => ga K "POWER", ["<->", "->", "or", "and", "=", "#", "<", "<=", ">", ">=", "in", "within", "+", "-", "*"]), (fun K => ga K "PLACES", ["edge", "path", "distance", "degree", "near", "joined", "treelike", "round", "size", "div", "mod"])]
def tfs : List Defn := [("is_name", none), ("is_number", none)]
def ss_CLOSED : List (List Nat) := [[116, 104, 105, 110, 103, 115], [116, 114, 117, 116, 104], [110, 117, 109, 98, 101, 114], [116, 104, 105, 110, 103], [115, 101, 116], [114, 101, 108, 97, 116, 105, 111, 110], [109, 97, 112], [103, 114, 97, 112, 104], [100, 105, 103, 114, 97, 112, 104], [108, 101, 116], [100, 101, 102], [119, 105, 115, 104], [115, 111, 102, 116], [112, 114, 105, 99, 101], [119, 101, 105, 103, 104, 116], [105, 110], [111, 102], [111, 110], [102, 114, 111, 109], [116, 111], [110, 111, 116], [97, 110, 100], [111, 114], [119, 105, 116, 104, 105, 110], [105, 102], [116, 104, 101, 110], [101, 108, 115, 101], [121, 101, 115], [110, 111], [103, 105, 118, 101, 110], [97, 108, 108], [115, 111, 109, 101], [101, 120, 97, 99, 116, 108, 121], [97, 116, 108, 101, 97, 115, 116], [97, 116, 109, 111, 115, 116], [99, 111, 117, 110, 116], [115, 117, 109], [108, 101, 97, 115, 116], [109, 111, 115, 116], [116, 104, 111, 115, 101], [101, 100, 103, 101], [112, 97, 116, 104], [106, 111, 105, 110, 101, 100], [116, 114, 101, 101, 108, 105, 107, 101], [114, 111, 117, 110, 100], [115, 105, 122, 101], [100, 101, 103, 114, 101, 101], [110, 101, 97, 114], [100, 105, 115, 116, 97, 110, 99, 101], [100, 105, 118], [109, 111, 100], [109, 111, 100, 101, 108], [119, 101, 105, 103, 104], [110, 116, 104], [102, 111, 108, 108, 111, 119, 115], [102, 111, 114, 99, 101, 100], [99, 111, 114, 101], [109, 101, 110, 100], [108, 105, 107, 101, 108, 105, 101, 115, 116], [109, 97, 114, 103, 105, 110, 97, 108], [116, 104, 101, 105, 114, 115], [115, 101, 101, 115], [119, 105, 110], [118, 97, 108, 117, 101], [115, 116, 97, 98, 108, 101], [115, 116, 97, 98, 108, 101, 115]]
def ss_MARKS : List (List Nat) := [[60, 45, 62], [45, 62], [60, 61], [62, 61], [46, 46], [40], [41], [123], [125], [44], [58], [61], [35], [60], [62], [43], [45], [42], [47]]
def ss_RIGHT : List (List Nat) := [[60, 45, 62], [45, 62], [111, 114], [97, 110, 100]]
def ss_EACH : List (List Nat) := [[97, 108, 108], [115, 111, 109, 101], [101, 120, 97, 99, 116, 108, 121], [97, 116, 108, 101, 97, 115, 116], [97, 116, 109, 111, 115, 116], [99, 111, 117, 110, 116], [115, 117, 109], [108, 101, 97, 115, 116], [109, 111, 115, 116], [116, 104, 111, 115, 101]]
def ss_NUMBERED : List (List Nat) := [[101, 120, 97, 99, 116, 108, 121], [97, 116, 108, 101, 97, 115, 116], [97, 116, 109, 111, 115, 116]]
def exx (K : PySem.W.Frag) : Bool := tupB K "CLOSED" (dvS ss_CLOSED) && tupB K "MARKS" (dvS ss_MARKS) && tupB K "RIGHT" (dvS ss_RIGHT) && tupB K "EACH" (dvS ss_EACH) && tupB K "NUMBERED" (dvS ss_NUMBERED) && kdB K "POWER" kd_POWER && kdB K "PLACES" kd_PLACES && true
set_option maxHeartbeats 0 in
theorem law_at {w : World} {mg : Str → Option Value} {fa : Addr} {h : Heap} (Y : ∃ K : PySem.W.Frag, K.In h ∧ SaysX facts defns tabs tfs exx w h K) (N : h.Ns mainGlobals mg) (e : mg "law" = some (.ref fa)) : ∃ K : PySem.W.Frag, K.In h ∧ LamX.LawAtS PySem.Challenge.rw_foundry_k06_trees_of_lines w K (L2.CX PySem.Challenge.rw_foundry_k06_trees_of_lines.prog w) 66 63 "script" mg fa h := by
  obtain ⟨K, KX, Y⟩ := Y
  refine ⟨K, KX, ?_⟩
  have D := Y.t.d
  obtain ⟨fd_is_name, D0_is_name⟩ := D.def_ 0 (d := SL.mkD ("is_name", none) "is_name" "is_name" s_is_name)
  have F_is_name : L2.Fun K "is_name" "is_name" s_is_name (ga K "is_name") fd_is_name := SL.FunD.toFun D0_is_name
  have B_is_name : Binds K fd_is_name ["text"] [] := F_is_name.binds fun _ _ _ _ _ _ us hl => match us, hl with | [_], _ => rfl
  obtain ⟨fd_is_number, D0_is_number⟩ := D.def_ 1 (d := SL.mkD ("is_number", none) "is_number" "is_number" s_is_number)
  have F_is_number : L2.Fun K "is_number" "is_number" s_is_number (ga K "is_number") fd_is_number := SL.FunD.toFun D0_is_number
  have B_is_number : Binds K fd_is_number ["text"] [] := F_is_number.binds fun _ _ _ _ _ _ us hl => match us, hl with | [_], _ => rfl
  obtain ⟨fd_words_of, D0_words_of⟩ := D.def_ 2 (d := SL.mkD ("words_of", none) "words_of" "words_of" s_words_of)
  have F_words_of : L2.Fun K "words_of" "words_of" s_words_of (ga K "words_of") fd_words_of := SL.FunD.toFun D0_words_of
  have B_words_of : Binds K fd_words_of ["line"] [] := F_words_of.binds fun _ _ _ _ _ _ us hl => match us, hl with | [_], _ => rfl
  obtain ⟨fd_Reading___init__, D0_Reading___init__⟩ := D.def_ 3 (d := SL.mkD ("Reading", some "__init__") "__init__" "Reading.__init__" s_Reading___init__)
  have F_Reading___init__ : L2.Fun K "__init__" "Reading.__init__" s_Reading___init__ (ma K (ga K "Reading") "__init__") fd_Reading___init__ := SL.FunD.toFun D0_Reading___init__
  have B_Reading___init__ : Binds K fd_Reading___init__ ["self", "words", "at"] [] := F_Reading___init__.binds fun _ _ _ _ _ _ us hl => match us, hl with | [_, _, _], _ => rfl
  obtain ⟨fd_Reading_word, D0_Reading_word⟩ := D.def_ 4 (d := SL.mkD ("Reading", some "word") "word" "Reading.word" s_Reading_word)
  have F_Reading_word : L2.Fun K "word" "Reading.word" s_Reading_word (ma K (ga K "Reading") "word") fd_Reading_word := SL.FunD.toFun D0_Reading_word
  have B_Reading_word : Binds K fd_Reading_word ["self"] [] := F_Reading_word.binds fun _ _ _ _ _ _ us hl => match us, hl with | [_], _ => rfl
  obtain ⟨fd_Reading_takes, D0_Reading_takes⟩ := D.def_ 5 (d := SL.mkD ("Reading", some "takes") "takes" "Reading.takes" s_Reading_takes)
  have F_Reading_takes : L2.Fun K "takes" "Reading.takes" s_Reading_takes (ma K (ga K "Reading") "takes") fd_Reading_takes := SL.FunD.toFun D0_Reading_takes
  have B_Reading_takes : Binds K fd_Reading_takes ["self", "word"] [] := F_Reading_takes.binds fun _ _ _ _ _ _ us hl => match us, hl with | [_, _], _ => rfl
  obtain ⟨fd_Reading_tree, D0_Reading_tree⟩ := D.def_ 6 (d := SL.mkD ("Reading", some "tree") "tree" "Reading.tree" s_Reading_tree)
  have F_Reading_tree : L2.Fun K "tree" "Reading.tree" s_Reading_tree (ma K (ga K "Reading") "tree") fd_Reading_tree := SL.FunD.toFun D0_Reading_tree
  have B_Reading_tree : Binds K fd_Reading_tree ["self", "power"] [] := F_Reading_tree.binds fun _ _ _ _ _ _ us hl => match us, hl with | [_, _], _ => rfl
  obtain ⟨fd_Reading_first, D0_Reading_first⟩ := D.def_ 7 (d := SL.mkD ("Reading", some "first") "first" "Reading.first" s_Reading_first)
  have F_Reading_first : L2.Fun K "first" "Reading.first" s_Reading_first (ma K (ga K "Reading") "first") fd_Reading_first := SL.FunD.toFun D0_Reading_first
  have B_Reading_first : Binds K fd_Reading_first ["self"] [] := F_Reading_first.binds fun _ _ _ _ _ _ us hl => match us, hl with | [_], _ => rfl
  obtain ⟨fd_Reading_plain, D0_Reading_plain⟩ := D.def_ 8 (d := SL.mkD ("Reading", some "plain") "plain" "Reading.plain" s_Reading_plain)
  have F_Reading_plain : L2.Fun K "plain" "Reading.plain" s_Reading_plain (ma K (ga K "Reading") "plain") fd_Reading_plain := SL.FunD.toFun D0_Reading_plain
  have B_Reading_plain : Binds K fd_Reading_plain ["self", "word"] [] := F_Reading_plain.binds fun _ _ _ _ _ _ us hl => match us, hl with | [_, _], _ => rfl
  obtain ⟨fd_Reading_behind, D0_Reading_behind⟩ := D.def_ 9 (d := SL.mkD ("Reading", some "behind") "behind" "Reading.behind" s_Reading_behind)
  have F_Reading_behind : L2.Fun K "behind" "Reading.behind" s_Reading_behind (ma K (ga K "Reading") "behind") fd_Reading_behind := SL.FunD.toFun D0_Reading_behind
  have B_Reading_behind : Binds K fd_Reading_behind ["self", "word", "power"] [] := F_Reading_behind.binds fun _ _ _ _ _ _ us hl => match us, hl with | [_, _, _], _ => rfl
  obtain ⟨fd_Reading_parts, D0_Reading_parts⟩ := D.def_ 10 (d := SL.mkD ("Reading", some "parts") "parts" "Reading.parts" s_Reading_parts)
  have F_Reading_parts : L2.Fun K "parts" "Reading.parts" s_Reading_parts (ma K (ga K "Reading") "parts") fd_Reading_parts := SL.FunD.toFun D0_Reading_parts
  have B_Reading_parts : Binds K fd_Reading_parts ["self", "left", "right"] [] := F_Reading_parts.binds fun _ _ _ _ _ _ us hl => match us, hl with | [_, _, _], _ => rfl
  obtain ⟨fd_Reading_either, D0_Reading_either⟩ := D.def_ 11 (d := SL.mkD ("Reading", some "either") "either" "Reading.either" s_Reading_either)
  have F_Reading_either : L2.Fun K "either" "Reading.either" s_Reading_either (ma K (ga K "Reading") "either") fd_Reading_either := SL.FunD.toFun D0_Reading_either
  have B_Reading_either : Binds K fd_Reading_either ["self"] [] := F_Reading_either.binds fun _ _ _ _ _ _ us hl => match us, hl with | [_], _ => rfl
  obtain ⟨fd_Reading_each, D0_Reading_each⟩ := D.def_ 12 (d := SL.mkD ("Reading", some "each") "each" "Reading.each" s_Reading_each)
  have F_Reading_each : L2.Fun K "each" "Reading.each" s_Reading_each (ma K (ga K "Reading") "each") fd_Reading_each := SL.FunD.toFun D0_Reading_each
  have B_Reading_each : Binds K fd_Reading_each ["self", "word"] [] := F_Reading_each.binds fun _ _ _ _ _ _ us hl => match us, hl with | [_, _], _ => rfl
  obtain ⟨fd_parse_tree, D0_parse_tree⟩ := D.def_ 13 (d := SL.mkD ("parse_tree", none) "parse_tree" "parse_tree" s_parse_tree)
  have F_parse_tree : L2.Fun K "parse_tree" "parse_tree" s_parse_tree (ga K "parse_tree") fd_parse_tree := SL.FunD.toFun D0_parse_tree
  have B_parse_tree : Binds K fd_parse_tree ["words"] [] := F_parse_tree.binds fun _ _ _ _ _ _ us hl => match us, hl with | [_], _ => rfl
  obtain ⟨fd__law_cell, D0__law_cell⟩ := D.def_ 14 (d := SL.mkD ("_law_cell", none) "_law_cell" "_law_cell" s__law_cell)
  have F__law_cell : L2.Fun K "_law_cell" "_law_cell" s__law_cell (ga K "_law_cell") fd__law_cell := SL.FunD.toFun D0__law_cell
  have B__law_cell : Binds K fd__law_cell ["script", "k"] [] := F__law_cell.binds fun _ _ _ _ _ _ us hl => match us, hl with | [_, _], _ => rfl
  obtain ⟨fd__law_draw, D0__law_draw⟩ := D.def_ 15 (d := SL.mkD ("_law_draw", none) "_law_draw" "_law_draw" s__law_draw)
  have F__law_draw : L2.Fun K "_law_draw" "_law_draw" s__law_draw (ga K "_law_draw") fd__law_draw := SL.FunD.toFun D0__law_draw
  have B__law_draw : Binds K fd__law_draw ["script", "k", "sizes"] [] := F__law_draw.binds fun _ _ _ _ _ _ us hl => match us, hl with | [_, _, _], _ => rfl
  obtain ⟨fd__law_strictly, D0__law_strictly⟩ := D.def_ 16 (d := SL.mkD ("_law_strictly", none) "_law_strictly" "_law_strictly" s__law_strictly)
  have F__law_strictly : L2.Fun K "_law_strictly" "_law_strictly" s__law_strictly (ga K "_law_strictly") fd__law_strictly := SL.FunD.toFun D0__law_strictly
  have B__law_strictly : Binds K fd__law_strictly ["expected", "actual"] [] := F__law_strictly.binds fun _ _ _ _ _ _ us hl => match us, hl with | [_, _], _ => rfl
  obtain ⟨fd__law_tree, D0__law_tree⟩ := D.def_ 17 (d := SL.mkD ("_law_tree", none) "_law_tree" "_law_tree" s__law_tree)
  have F__law_tree : L2.Fun K "_law_tree" "_law_tree" s__law_tree (ga K "_law_tree") fd__law_tree := SL.FunD.toFun D0__law_tree
  have B__law_tree : Binds K fd__law_tree ["script", "many"] [] := F__law_tree.binds fun _ _ _ _ _ _ us hl => match us, hl with | [_, _], _ => rfl
  obtain ⟨fd_law, D0_law⟩ := D.def_ 18 (d := SL.mkD ("law", none) "law" "law" s_law)
  have F_law : L2.Fun K "law" "law" s_law (ga K "law") fd_law := SL.FunD.toFun D0_law
  have B_law : Binds K fd_law ["script"] [] := F_law.binds fun _ _ _ _ _ _ us hl => match us, hl with | [_], _ => rfl
  have g_is_name : mg "is_name" = some (.ref (ga K "is_name")) := glo_ok KX N (D.fact 0 (f := .glo "is_name"))
  have g_is_number : mg "is_number" = some (.ref (ga K "is_number")) := glo_ok KX N (D.fact 1 (f := .glo "is_number"))
  have g_words_of : mg "words_of" = some (.ref (ga K "words_of")) := glo_ok KX N (D.fact 2 (f := .glo "words_of"))
  have g_parse_tree : mg "parse_tree" = some (.ref (ga K "parse_tree")) := glo_ok KX N (D.fact 3 (f := .glo "parse_tree"))
  have g__law_cell : mg "_law_cell" = some (.ref (ga K "_law_cell")) := glo_ok KX N (D.fact 4 (f := .glo "_law_cell"))
  have g__law_draw : mg "_law_draw" = some (.ref (ga K "_law_draw")) := glo_ok KX N (D.fact 5 (f := .glo "_law_draw"))
  have g__law_strictly : mg "_law_strictly" = some (.ref (ga K "_law_strictly")) := glo_ok KX N (D.fact 6 (f := .glo "_law_strictly"))
  have g__law_tree : mg "_law_tree" = some (.ref (ga K "_law_tree")) := glo_ok KX N (D.fact 7 (f := .glo "_law_tree"))
  have g_law : mg "law" = some (.ref (ga K "law")) := glo_ok KX N (D.fact 8 (f := .glo "law"))
  have g_CLOSED : mg "CLOSED" = some (.ref (ga K "CLOSED")) := glo_ok KX N (D.fact 9 (f := .glo "CLOSED"))
  have g_MARKS : mg "MARKS" = some (.ref (ga K "MARKS")) := glo_ok KX N (D.fact 10 (f := .glo "MARKS"))
  have g_RIGHT : mg "RIGHT" = some (.ref (ga K "RIGHT")) := glo_ok KX N (D.fact 11 (f := .glo "RIGHT"))
  have g_EACH : mg "EACH" = some (.ref (ga K "EACH")) := glo_ok KX N (D.fact 12 (f := .glo "EACH"))
  have g_NUMBERED : mg "NUMBERED" = some (.ref (ga K "NUMBERED")) := glo_ok KX N (D.fact 13 (f := .glo "NUMBERED"))
  have g_POWER : mg "POWER" = some (.ref (ga K "POWER")) := glo_ok KX N (D.fact 14 (f := .glo "POWER"))
  have g_PLACES : mg "PLACES" = some (.ref (ga K "PLACES")) := glo_ok KX N (D.fact 15 (f := .glo "PLACES"))
  have f_len : mg "len" = none := free_ok KX N (D.fact 17 (f := .free "len"))
  have f_all : mg "all" = none := free_ok KX N (D.fact 18 (f := .free "all"))
  have f_max : mg "max" = none := free_ok KX N (D.fact 19 (f := .free "max"))
  have f_int : mg "int" = none := free_ok KX N (D.fact 20 (f := .free "int"))
  have f_tuple : mg "tuple" = none := free_ok KX N (D.fact 21 (f := .free "tuple"))
  have f_range : mg "range" = none := free_ok KX N (D.fact 22 (f := .free "range"))
  have f_isinstance : mg "isinstance" = none := free_ok KX N (D.fact 23 (f := .free "isinstance"))
  have f_bool : mg "bool" = none := free_ok KX N (D.fact 24 (f := .free "bool"))
  have f_str : mg "str" = none := free_ok KX N (D.fact 25 (f := .free "str"))
  have f_list : mg "list" = none := free_ok KX N (D.fact 26 (f := .free "list"))
  obtain ⟨t_NAME, g_NAME⟩ := int_ok KX N (D.fact 27 (f := .int "NAME" 12))
  obtain ⟨t_FIRST, g_FIRST⟩ := str_ok KX N (D.fact 28 (f := .str "FIRST" ⟨DK06.z_FIRST.toArray⟩))
  obtain ⟨t_SIGNS, g_SIGNS⟩ := str_ok KX N (D.fact 29 (f := .str "SIGNS" ⟨DK06.z_SIGNS.toArray⟩))
  obtain ⟨t_DIGITS, g_DIGITS⟩ := str_ok KX N (D.fact 30 (f := .str "DIGITS" ⟨DK06.z_DIGITS.toArray⟩))
  have gc_Reading : mg "Reading" = some (.ref (ga K "Reading")) := glo_ok KX N (D.fact 16 (f := .glo "Reading"))
  have cl_Reading : Cls K (ga K "Reading") := cls_ok (D.fact 31 (f := .cls "Reading"))
  have mk_Reading : Mk K (ga K "Reading") (ma K (ga K "Reading") "__init__") := mkr_ok (D.fact 43 (f := .mkr "Reading"))
  have mt_Reading_word : Meth K (ga K "Reading") "word" (ma K (ga K "Reading") "word") := meth_ok (D.fact 34 (f := .meth "Reading" "word"))
  have mt_Reading_takes : Meth K (ga K "Reading") "takes" (ma K (ga K "Reading") "takes") := meth_ok (D.fact 35 (f := .meth "Reading" "takes"))
  have mt_Reading_tree : Meth K (ga K "Reading") "tree" (ma K (ga K "Reading") "tree") := meth_ok (D.fact 36 (f := .meth "Reading" "tree"))
  have mt_Reading_first : Meth K (ga K "Reading") "first" (ma K (ga K "Reading") "first") := meth_ok (D.fact 37 (f := .meth "Reading" "first"))
  have mt_Reading_plain : Meth K (ga K "Reading") "plain" (ma K (ga K "Reading") "plain") := meth_ok (D.fact 38 (f := .meth "Reading" "plain"))
  have mt_Reading_behind : Meth K (ga K "Reading") "behind" (ma K (ga K "Reading") "behind") := meth_ok (D.fact 39 (f := .meth "Reading" "behind"))
  have mt_Reading_parts : Meth K (ga K "Reading") "parts" (ma K (ga K "Reading") "parts") := meth_ok (D.fact 40 (f := .meth "Reading" "parts"))
  have mt_Reading_either : Meth K (ga K "Reading") "either" (ma K (ga K "Reading") "either") := meth_ok (D.fact 41 (f := .meth "Reading" "either"))
  have mt_Reading_each : Meth K (ga K "Reading") "each" (ma K (ga K "Reading") "each") := meth_ok (D.fact 42 (f := .meth "Reading" "each"))
  have fo_words : FldOk K clss "words" := fun C hC => by
    simp only [clss, List.mem_cons, List.not_mem_nil, or_false] at hC
    subst hC
    exact ⟨cl_Reading, noat_ok (D.fact 32 (f := .noat "Reading" "words"))⟩
  have fo_at : FldOk K clss "at" := fun C hC => by
    simp only [clss, List.mem_cons, List.not_mem_nil, or_false] at hC
    subst hC
    exact ⟨cl_Reading, noat_ok (D.fact 33 (f := .noat "Reading" "at"))⟩
  have M0 := Y.more
  simp only [exx, Bool.and_eq_true] at M0
  have rd_CLOSED : ∀ H : Hp, Rp K H (.ref (ga K "CLOSED")) DK06.d_CLOSED := fun H => .tup (tupB_ok M0.1.1.1.1.1.1.1 H) (rps_strs ss_CLOSED)
  have rd_MARKS : ∀ H : Hp, Rp K H (.ref (ga K "MARKS")) DK06.d_MARKS := fun H => .tup (tupB_ok M0.1.1.1.1.1.1.2 H) (rps_strs ss_MARKS)
  have r_RIGHT : ∀ G : Gd, RV K G (.ref (ga K "RIGHT")) d_RIGHT := fun G => .tup (tupB_ok M0.1.1.1.1.1.2 G.b) (rvs_strs ss_RIGHT)
  have r_EACH : ∀ G : Gd, RV K G (.ref (ga K "EACH")) d_EACH := fun G => .tup (tupB_ok M0.1.1.1.1.2 G.b) (rvs_strs ss_EACH)
  have r_NUMBERED : ∀ G : Gd, RV K G (.ref (ga K "NUMBERED")) d_NUMBERED := fun G => .tup (tupB_ok M0.1.1.1.2 G.b) (rvs_strs ss_NUMBERED)
  have D_POWER : KD K w "POWER" kd_POWER := kd_of (Y.t.tab 0) M0.1.1.2
  have D_PLACES : KD K w "PLACES" kd_PLACES := kd_of (Y.t.tab 1) M0.1.2
  have ee : fa = ga K "law" := by rw [g_law] at e; simpa using e.symm
  subst ee
  refine ⟨fd_law, tfs.map (cT K), spS ⟨K, ((tfs.map (cT K)).map (·.2))⟩ m_law, fun p hp => ?_, fun p hp => ?_, fun p hp => ?_, fun s u => FunD.bindsA (ps := ["script"]) D0_law (fun _ _ _ _ _ _ us hl => match us, hl with | [_], _ => rfl) s [u] rfl, fun H a ns hlen hbits hT hS => ?_, fun base KB NB TB => ?_⟩
  · obtain ⟨q, hq, rfl⟩ := List.mem_map.mp hp
    exact Y.empty q hq
  · obtain ⟨q, hq, rfl⟩ := List.mem_map.mp hp
    exact Y.out q hq
  · obtain ⟨q, hq, rfl⟩ := List.mem_map.mp hp
    exact PySem.W.codeHd_of_K KX (Y.hd q hq)
  · refine law_sp hS (fun p hp => ?_) (law_true ns) fun H' => rfl
    obtain ⟨q0, hq0, rfl⟩ := List.mem_map.mp hp
    obtain ⟨q, hq, rfl⟩ := List.mem_map.mp hq0
    exact ⟨#[], hT _ (List.mem_map.mpr ⟨q, hq, rfl⟩), trivial⟩
  · have D_G_is_name := DK06.ok_is_name (P := PySem.Challenge.rw_foundry_k06_trees_of_lines.prog) (w := w) (mg := mg) (base := base) (T := ((tfs.map (cT K)).map (·.2))) F_is_name g_NAME g_CLOSED rd_CLOSED g_FIRST g_SIGNS f_len f_all NB (SL.fun_code F_is_name) (SL.tab_of (TB (cT K ("is_name", none)) (SL.tin (by decide)))) (SL.hin (p := ("is_name", none)) (by decide))
    have G_is_name : FnOk PySem.Challenge.rw_foundry_k06_trees_of_lines.prog w K mg base (L2.CX PySem.Challenge.rw_foundry_k06_trees_of_lines.prog w) 2 (ga K "is_name") fd_is_name ["text"] (spS ⟨K, ((tfs.map (cT K)).map (·.2))⟩ m_is_name) := SL.FnOk.data D_G_is_name
    have D_G_is_number := DK06.ok_is_number (P := PySem.Challenge.rw_foundry_k06_trees_of_lines.prog) (w := w) (mg := mg) (base := base) (T := ((tfs.map (cT K)).map (·.2))) F_is_number g_DIGITS f_len f_all NB (SL.fun_code F_is_number) (SL.tab_of (TB (cT K ("is_number", none)) (SL.tin (by decide)))) (SL.hin (p := ("is_number", none)) (by decide))
    have G_is_number : FnOk PySem.Challenge.rw_foundry_k06_trees_of_lines.prog w K mg base (L2.CX PySem.Challenge.rw_foundry_k06_trees_of_lines.prog w) 2 (ga K "is_number") fd_is_number ["text"] (spS ⟨K, ((tfs.map (cT K)).map (·.2))⟩ m_is_number) := SL.FnOk.data D_G_is_number
    have D_G_words_of := DK06.ok_words_of (P := PySem.Challenge.rw_foundry_k06_trees_of_lines.prog) (w := w) (mg := mg) (base := base) (T := ((tfs.map (cT K)).map (·.2))) F_words_of D_G_is_name g_is_name F_is_name.kp B_is_name D_G_is_number g_is_number F_is_number.kp B_is_number g_SIGNS g_CLOSED rd_CLOSED g_MARKS rd_MARKS f_len
    have G_words_of : FnOk PySem.Challenge.rw_foundry_k06_trees_of_lines.prog w K mg base (L2.CX PySem.Challenge.rw_foundry_k06_trees_of_lines.prog w) 3 (ga K "words_of") fd_words_of ["line"] (spS ⟨K, ((tfs.map (cT K)).map (·.2))⟩ m_words_of) := SL.FnOk.data D_G_words_of
    have G_Reading___init__ : FnOk PySem.Challenge.rw_foundry_k06_trees_of_lines.prog w K mg base (L2.CX PySem.Challenge.rw_foundry_k06_trees_of_lines.prog w) 1 (ma K (ga K "Reading") "__init__") fd_Reading___init__ ["self", "words", "at"] (spS ⟨K, ((tfs.map (cT K)).map (·.2))⟩ m_Reading___init__) := ok_Reading___init__ (P := PySem.Challenge.rw_foundry_k06_trees_of_lines.prog) (w := w) (mg := mg) (base := base) (T := ((tfs.map (cT K)).map (·.2))) F_Reading___init__ fo_words fo_at
    have G_Reading_word : FnOk PySem.Challenge.rw_foundry_k06_trees_of_lines.prog w K mg base (L2.CX PySem.Challenge.rw_foundry_k06_trees_of_lines.prog w) 1 (ma K (ga K "Reading") "word") fd_Reading_word ["self"] (spS ⟨K, ((tfs.map (cT K)).map (·.2))⟩ m_Reading_word) := ok_Reading_word (P := PySem.Challenge.rw_foundry_k06_trees_of_lines.prog) (w := w) (mg := mg) (base := base) (T := ((tfs.map (cT K)).map (·.2))) F_Reading_word fo_at fo_words f_len
    have G_Reading_takes : FnOk PySem.Challenge.rw_foundry_k06_trees_of_lines.prog w K mg base (L2.CX PySem.Challenge.rw_foundry_k06_trees_of_lines.prog w) 2 (ma K (ga K "Reading") "takes") fd_Reading_takes ["self", "word"] (spS ⟨K, ((tfs.map (cT K)).map (·.2))⟩ m_Reading_takes) := ok_Reading_takes (P := PySem.Challenge.rw_foundry_k06_trees_of_lines.prog) (w := w) (mg := mg) (base := base) (T := ((tfs.map (cT K)).map (·.2))) F_Reading_takes G_Reading_word B_Reading_word cl_Reading mt_Reading_word fo_at
    have R_Reading_tree := okn_Reading_tree (P := PySem.Challenge.rw_foundry_k06_trees_of_lines.prog) (w := w) (mg := mg) (base := base) (T := ((tfs.map (cT K)).map (·.2))) B_Reading_first G_Reading_word B_Reading_word B_Reading_tree cl_Reading mt_Reading_first mt_Reading_word mt_Reading_tree fo_at g_POWER D_POWER g_RIGHT r_RIGHT f_max B_Reading_behind B_Reading_either B_Reading_each B_Reading_parts G_Reading_takes B_Reading_takes B_Reading_plain mt_Reading_behind mt_Reading_either mt_Reading_each mt_Reading_parts mt_Reading_takes mt_Reading_plain g_EACH r_EACH g_PLACES D_PLACES f_len G_is_number B_is_number g_is_number F_is_number.kp G_is_name B_is_name g_is_name F_is_name.kp f_int f_tuple g_NUMBERED r_NUMBERED F_Reading_tree F_Reading_first F_Reading_plain F_Reading_behind F_Reading_parts F_Reading_either F_Reading_each 60
    have G_Reading_tree : FnOk PySem.Challenge.rw_foundry_k06_trees_of_lines.prog w K mg base (L2.CX PySem.Challenge.rw_foundry_k06_trees_of_lines.prog w) 63 (ma K (ga K "Reading") "tree") fd_Reading_tree ["self", "power"] (spS ⟨K, ((tfs.map (cT K)).map (·.2))⟩ m_Reading_tree) := R_Reading_tree.1
    have G_Reading_first : FnOk PySem.Challenge.rw_foundry_k06_trees_of_lines.prog w K mg base (L2.CX PySem.Challenge.rw_foundry_k06_trees_of_lines.prog w) 63 (ma K (ga K "Reading") "first") fd_Reading_first ["self"] (spS ⟨K, ((tfs.map (cT K)).map (·.2))⟩ m_Reading_first) := R_Reading_tree.2.1
    have G_Reading_plain : FnOk PySem.Challenge.rw_foundry_k06_trees_of_lines.prog w K mg base (L2.CX PySem.Challenge.rw_foundry_k06_trees_of_lines.prog w) 63 (ma K (ga K "Reading") "plain") fd_Reading_plain ["self", "word"] (spS ⟨K, ((tfs.map (cT K)).map (·.2))⟩ m_Reading_plain) := R_Reading_tree.2.2.1
    have G_Reading_behind : FnOk PySem.Challenge.rw_foundry_k06_trees_of_lines.prog w K mg base (L2.CX PySem.Challenge.rw_foundry_k06_trees_of_lines.prog w) 63 (ma K (ga K "Reading") "behind") fd_Reading_behind ["self", "word", "power"] (spS ⟨K, ((tfs.map (cT K)).map (·.2))⟩ m_Reading_behind) := R_Reading_tree.2.2.2.1
    have G_Reading_parts : FnOk PySem.Challenge.rw_foundry_k06_trees_of_lines.prog w K mg base (L2.CX PySem.Challenge.rw_foundry_k06_trees_of_lines.prog w) 63 (ma K (ga K "Reading") "parts") fd_Reading_parts ["self", "left", "right"] (spS ⟨K, ((tfs.map (cT K)).map (·.2))⟩ m_Reading_parts) := R_Reading_tree.2.2.2.2.1
    have G_Reading_either : FnOk PySem.Challenge.rw_foundry_k06_trees_of_lines.prog w K mg base (L2.CX PySem.Challenge.rw_foundry_k06_trees_of_lines.prog w) 63 (ma K (ga K "Reading") "either") fd_Reading_either ["self"] (spS ⟨K, ((tfs.map (cT K)).map (·.2))⟩ m_Reading_either) := R_Reading_tree.2.2.2.2.2.1
    have G_Reading_each : FnOk PySem.Challenge.rw_foundry_k06_trees_of_lines.prog w K mg base (L2.CX PySem.Challenge.rw_foundry_k06_trees_of_lines.prog w) 63 (ma K (ga K "Reading") "each") fd_Reading_each ["self", "word"] (spS ⟨K, ((tfs.map (cT K)).map (·.2))⟩ m_Reading_each) := R_Reading_tree.2.2.2.2.2.2
    have G_parse_tree : FnOk PySem.Challenge.rw_foundry_k06_trees_of_lines.prog w K mg base (L2.CX PySem.Challenge.rw_foundry_k06_trees_of_lines.prog w) 65 (ga K "parse_tree") fd_parse_tree ["words"] (spS ⟨K, ((tfs.map (cT K)).map (·.2))⟩ m_parse_tree) := ok_parse_tree (P := PySem.Challenge.rw_foundry_k06_trees_of_lines.prog) (w := w) (mg := mg) (base := base) (T := ((tfs.map (cT K)).map (·.2))) F_parse_tree G_Reading___init__ B_Reading___init__ G_Reading_tree B_Reading_tree cl_Reading mt_Reading_tree mk_Reading gc_Reading fo_at f_len
    have D_G__law_cell := DK06.ok__law_cell (P := PySem.Challenge.rw_foundry_k06_trees_of_lines.prog) (w := w) (mg := mg) (base := base) (T := ((tfs.map (cT K)).map (·.2))) F__law_cell f_len
    have G__law_cell : FnOk PySem.Challenge.rw_foundry_k06_trees_of_lines.prog w K mg base (L2.CX PySem.Challenge.rw_foundry_k06_trees_of_lines.prog w) 1 (ga K "_law_cell") fd__law_cell ["script", "k"] (spS ⟨K, ((tfs.map (cT K)).map (·.2))⟩ m__law_cell) := SL.FnOk.data D_G__law_cell
    have D_G__law_draw := DK06.ok__law_draw (P := PySem.Challenge.rw_foundry_k06_trees_of_lines.prog) (w := w) (mg := mg) (base := base) (T := ((tfs.map (cT K)).map (·.2))) F__law_draw D_G__law_cell g__law_cell F__law_cell.kp B__law_cell f_range f_len
    have G__law_draw : FnOk PySem.Challenge.rw_foundry_k06_trees_of_lines.prog w K mg base (L2.CX PySem.Challenge.rw_foundry_k06_trees_of_lines.prog w) 2 (ga K "_law_draw") fd__law_draw ["script", "k", "sizes"] (spS ⟨K, ((tfs.map (cT K)).map (·.2))⟩ m__law_draw) := SL.FnOk.data D_G__law_draw
    have R__law_strictly := okn__law_strictly (P := PySem.Challenge.rw_foundry_k06_trees_of_lines.prog) (w := w) (mg := mg) (base := base) (T := ((tfs.map (cT K)).map (·.2))) B__law_strictly g__law_strictly F__law_strictly.kp f_isinstance f_bool f_int f_str f_tuple f_list f_len f_range F__law_strictly 60
    have G__law_strictly : FnOk PySem.Challenge.rw_foundry_k06_trees_of_lines.prog w K mg base (L2.CX PySem.Challenge.rw_foundry_k06_trees_of_lines.prog w) 61 (ga K "_law_strictly") fd__law_strictly ["expected", "actual"] (spS ⟨K, ((tfs.map (cT K)).map (·.2))⟩ m__law_strictly) := R__law_strictly
    have G__law_tree : FnOk PySem.Challenge.rw_foundry_k06_trees_of_lines.prog w K mg base (L2.CX PySem.Challenge.rw_foundry_k06_trees_of_lines.prog w) 3 (ga K "_law_tree") fd__law_tree ["script", "many"] (spS ⟨K, ((tfs.map (cT K)).map (·.2))⟩ m__law_tree) := ok__law_tree (P := PySem.Challenge.rw_foundry_k06_trees_of_lines.prog) (w := w) (mg := mg) (base := base) (T := ((tfs.map (cT K)).map (·.2))) F__law_tree G__law_draw B__law_draw g__law_draw F__law_draw.kp f_range f_len
    have G_law : FnOk PySem.Challenge.rw_foundry_k06_trees_of_lines.prog w K mg base (L2.CX PySem.Challenge.rw_foundry_k06_trees_of_lines.prog w) 66 (ga K "law") fd_law ["script"] (spS ⟨K, ((tfs.map (cT K)).map (·.2))⟩ m_law) := ok_law (P := PySem.Challenge.rw_foundry_k06_trees_of_lines.prog) (w := w) (mg := mg) (base := base) (T := ((tfs.map (cT K)).map (·.2))) F_law G__law_draw B__law_draw g__law_draw F__law_draw.kp G__law_tree B__law_tree g__law_tree F__law_tree.kp G_parse_tree B_parse_tree g_parse_tree F_parse_tree.kp G_words_of B_words_of g_words_of F_words_of.kp G__law_strictly B__law_strictly g__law_strictly F__law_strictly.kp
    exact G_law
end SL.K06
set_option maxHeartbeats 0 in
theorem PySem.Challenge.cw_foundry_k06_trees_of_lines_holds : PySem.Challenge.rw_foundry_k06_trees_of_lines.Holds := by
  w_on; o_law; o_head (He.hookX 6 SL.K06.facts SL.K06.defns SL.K06.tabs SL.K06.tfs SL.K06.exx); (case hw => w_witness2)
  exact LamX.walk_ofTsE (CX := fun w => L2.CX PySem.Challenge.rw_foundry_k06_trees_of_lines.prog w) (n := 63) (k := 66) rfl (by decide) rfl ⟨rfl, by decide, by decide⟩ (fun w mg fa h Y N e => SL.K06.law_at Y N e) fun w H s e s' h => by
    obtain ⟨_, _, _, _, _, _, _, _, _, _, _, _, hE⟩ := h
    exact hE
