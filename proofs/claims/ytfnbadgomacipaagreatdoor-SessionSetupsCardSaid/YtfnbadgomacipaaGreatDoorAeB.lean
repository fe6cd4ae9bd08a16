/- An evaluator of the model by which a run is reckoned: part 2. -/
import Derived.Test.YtfnbadgomacipaaGreatDoorAeA
import Derived.Laws.Tables
import Derived.KernelRfl
import Derived.Defers
/- One operation: what the evaluator answers, the model does: new memory. -/
namespace Go.Ae
open Go
section
variable {P : Program} {mid : String → Option Nat} {T : Tab} {J : KW} {A : AW} {w : World} {env : List AV} {a : Act}

theorem Post.drawn {J' : KW} {A' : AW} {w' w'' : World} (h : Post P mid J A w J' A' w') (hh : w''.heap = w'.heap) (ho : w''.os = w'.os) (ht : w''.tape = w'.tape) (hp : w''.output = w'.output) : Post P mid J A w J' A' w'' where
  le := h.le
  hr := h.hr.drawn hh
  sz := by rw [hh]; exact h.sz
  os := ho.trans h.os
  tape := ht.trans h.tape
  out := hp.trans h.out
  nx := h.nx
  fr := by rw [hh]; exact h.fr
  foot := h.foot
  ro := h.ro
  dm := h.dm

theorem cells_VR {x : AV} {v : Value} (h : VR J x v) : VRs J (cellsOf x) v.cells.toList := by
  cases x with
  | agg l => simp only [VR] at h; obtain ⟨l', rfl, hl⟩ := h; exact hl
  | bool b => have h0 := h; simp only [VR] at h; subst h; exact VRs.cons h0 VRs.nil
  | int k n => have h0 := h; simp only [VR] at h; subst h; exact VRs.cons h0 VRs.nil
  | flt k b => have h0 := h; simp only [VR] at h; subst h; exact VRs.cons h0 VRs.nil
  | str s => have h0 := h; simp only [VR] at h; obtain ⟨t, rfl, _⟩ := h; exact VRs.cons h0 VRs.nil
  | ptr p => have h0 := h; rcases p with _ | ⟨b, o⟩ <;> simp only [VR] at h
             · subst h; exact VRs.cons h0 VRs.nil
             · obtain ⟨b', rfl, _⟩ := h; exact VRs.cons h0 VRs.nil
  | slc p n c es =>
    have h0 := h
    cases p <;> simp only [VR] at h
    · obtain ⟨_, _, rfl⟩ := h; exact VRs.cons h0 VRs.nil
    · obtain ⟨_, _, _, _, rfl⟩ := h; exact VRs.cons h0 VRs.nil
    · obtain ⟨_, _, rfl, _⟩ := h; exact VRs.cons h0 VRs.nil
  | map r => have h0 := h; rcases r with _ | r <;> simp only [VR] at h
             · subst h; exact VRs.cons h0 VRs.nil
             · obtain ⟨_, rfl, _⟩ := h; exact VRs.cons h0 VRs.nil
  | fn f p q => have h0 := h; simp only [VR] at h; obtain ⟨_, _, _, rfl, _⟩ := h; exact VRs.cons h0 VRs.nil
  | nilFn => have h0 := h; simp only [VR] at h; subst h; exact VRs.cons h0 VRs.nil
  | ifc t x => have h0 := h; simp only [VR] at h; obtain ⟨_, rfl, _⟩ := h; exact VRs.cons h0 VRs.nil
  | nilIfc => have h0 := h; simp only [VR] at h; subst h; exact VRs.cons h0 VRs.nil
  | tup l => have h0 := h; simp only [VR] at h; obtain ⟨l', rfl, hl⟩ := h; exact VRs.cons h0 VRs.nil

theorem fold_over (vs : List Value) : ∀ (i off : Nat) (cs : Array Value), (vs.zipIdx i).foldl (fun cs (x : Value × Nat) => cs.setIfInBounds (off + x.2) x.1) cs = over cs (off + i) vs := by
  induction vs with
  | nil => intros; rfl
  | cons v vs ih =>
    intro i off cs
    simp only [List.zipIdx_cons, List.foldl_cons, over]
    rw [ih (i + 1) off]; rfl

theorem splice_over {J : KW} {cs : List AV} {C : Array Value} (h : VRs J cs C.toList) {xs : List AV} {vs : List Value} (hv : VRs J xs vs) (o : Nat) (hle : o + xs.length ≤ cs.length) : VRs J (splice cs o xs) (over C o vs).toList := by
  have hl := h.length
  have hl2 := hv.length
  rw [over_toList _ _ _ (by simp at hl; omega)]
  unfold splice
  rw [hl2]
  exact ((h.take o).append hv).append (h.drop _)

theorem fill_sim (hE : VRs J env a.tmps.toList) (h : HR P mid J A w) (place : Nat → Option (Nat × Nat)) : ∀ {ps : List (Nat × Operand)} {ps' : List (Nat × Nat × Opd)}, partsC P place ps = some ps' → ∀ {zs cs : List AV} {Z : Array Value}, VRs J zs Z.toList →
    fillA zs (ps'.map fun (o, n, x) => (o, n, ev env x)) = some cs → ∃ C : Array Value, Instr.fill place Z (ps.map fun (i, x) => (i, a.eval x)) = some C ∧ VRs J cs C.toList := by
  intro ps
  induction ps with
  | nil =>
    intro ps' hp zs cs Z hz hf
    simp only [partsC, Option.some.injEq] at hp; subst hp
    simp only [List.map_nil, fillA, Option.some.injEq] at hf; subst hf
    exact ⟨Z, rfl, hz⟩
  | cons p ps ih =>
    obtain ⟨i, x⟩ := p
    intro ps' hp zs cs Z hz hf
    simp only [partsC, bind, Option.bind_eq_some_iff] at hp
    obtain ⟨⟨o, n⟩, hpl, x', hx, ps2, hps, e⟩ := hp
    simp only [Option.some.injEq] at e; subst e
    simp only [List.map_cons, fillA] at hf
    cases hc : (Nat.beq (cellsOf (ev env x')).length n && Nat.ble (o + n) zs.length)
    · rw [hc] at hf; cases hf
    · rw [hc] at hf
      simp only [Bool.and_eq_true] at hc
      have h1 := Nat.eq_of_beq_eq_true hc.1
      have h2 := Nat.le_of_ble_eq_true hc.2
      simp only [cond_true] at hf
      have hv := cells_VR (ev_sim hE h hx)
      have hvl := hv.length
      have hzl := hz.length
      simp only [Array.length_toList] at hvl hzl
      have hz2 := splice_over hz hv o (by omega)
      obtain ⟨C, e1, e2⟩ := ih hps hz2 hf
      refine ⟨C, ?_, e2⟩
      simp only [List.map_cons, Instr.fill, hpl]
      have hcond : ¬ ((decide ((a.eval x).cells.size ≠ n) || decide (o + (a.eval x).cells.size > Z.size)) = true) := by
        simp; omega
      rw [if_neg hcond]
      have hfo : Array.foldl (fun cs (x : Value × Nat) => cs.setIfInBounds (o + x.2) x.1) Z (a.eval x).cells.zipIdx = over Z o (a.eval x).cells.toList := by
        rw [← Array.foldl_toList]
        have := fold_over (a.eval x).cells.toList 0 o Z
        simpa using this
      rw [hfo]; exact e1

theorem sim_build (hE : VRs J env a.tmps.toList) (h : HR P mid J A w) (t : TypeId) (parts : Array (Nat × Operand)) (zs : List AV) (ps : List (Nat × Nat × Opd)) (hz : zeroC P t = some zs)
    (hp : (∃ fs pl, P.underlying t = some (.struct fs) ∧ fs.toList.mapM (fun f => (P.info? f.type).map fun i => (f.offset, i.size)) = some pl ∧ partsC P (fun i => pl.toArray[i]?) parts.toList = some ps) ∨ (∃ n e s, P.underlying t = some (.array n e) ∧ szC P e = some s ∧ partsC P (fun i => some (i * s, s)) parts.toList = some ps))
    (ty : TypeId) (pos : String) (d af g) :
    OpOk P mid T J A w (evOp T env A (.build zs ps)) ((execOp a.eval ⟨d, .build t parts, ty, pos, af, g⟩).run P w) := by
  simp only [evOp]
  split
  · rename_i cs hf
    simp only [zeroC, bind, Option.bind_eq_some_iff] at hz
    obtain ⟨i, hi, zv, hzv, hzz⟩ := hz
    have hzVR : VRs J zs zv.cells.toList := absL_VRs J hzz
    have hmap : (parts.map fun (x : Nat × Operand) => (x.1, a.eval x.2)).toList = parts.toList.map fun (i, x) => (i, a.eval x) := by simp
    have fin : ∀ C : Array Value, P.built t (parts.toList.map fun (i, x) => (i, a.eval x)) = some C → VRs J cs C.toList → OpOk P mid T J A w (.val (.agg cs) A) ((execOp a.eval ⟨d, .build t parts, ty, pos, af, g⟩).run P w) := by
      intro C e1 e2
      refine ok_val h (v' := .agg C) ?_ (by simp only [VR]; exact ⟨C, rfl, e2⟩)
      have := run_build (P := P) w t (parts.map fun (x : Nat × Operand) => (x.1, a.eval x.2)) C (by rw [hmap]; exact e1)
      simp only [execOp]
      rw [Sem.run_bind]
      rw [this]; rfl
    rcases hp with ⟨fs, pl, hu, hpl, hps⟩ | ⟨n, e, s, hu, hs, hps⟩
    · obtain ⟨C, e1, e2⟩ := fill_sim hE h _ hps hzVR hf
      refine fin C ?_ e2
      simp only [Program.built, hi, hu, hzv, hpl]; exact e1
    · obtain ⟨C, e1, e2⟩ := fill_sim hE h _ hps hzVR hf
      refine fin C ?_ e2
      simp only [szC, Option.map_eq_some_iff] at hs
      obtain ⟨ie, hie, rfl⟩ := hs
      simp only [Program.built, hi, hu, hzv, hie]; exact e1
  · trivial

/-- new memory, on both sides -/
def NewOk (P : Program) (mid : String → Option Nat) (J : KW) (w : World) (o : AObj) (f : Nat → AV) (res : Result Next) : Prop :=
  ∃ c v' dr, res = .ok (.value v') { w with heap := w.heap.push c, drawn := dr } ∧ (∀ cs e, o ≠ .cells cs e true) ∧
    ∀ i, J.ι i = none → OR P mid (J.ext i w.heap.size (sizeOf' c)) o c ∧ VR (J.ext i w.heap.size (sizeOf' c)) (f i) v'

theorem ext_le (h : HR P mid J A w) {i : Nat} (hi : J.ι i = none) (n : Nat) : KW.le J (J.ext i w.heap.size n) :=
  KW.le_ext hi fun j d hj => by have := (h.dom j d hj).2; omega

theorem ext_self (J : KW) (i b n : Nat) : (J.ext i b n).ι i = some b ∧ (J.ext i b n).σ b = n := by simp [KW.ext]

theorem NF_zero (n : Nat) : NF (0, 0) n := .inl rfl

/-- the place of new cells -/
theorem new_cells (h : HR P mid J A w) {cs : List AV} {C : Array Value} (hc : VRs J cs C.toList) (e : TypeId) (i : Nat) (hi : J.ι i = none) :
    OR P mid (J.ext i w.heap.size C.size) (.cells cs e false) (.cells C e) := by
  simp only [OR]
  refine ⟨C, (0, 0), rfl, ?_, fun _ => NF_zero _⟩
  have hl := hc.length
  rw [hl, List.take_length]
  exact VRs.mono (ext_le h hi _) _ _ hc

theorem new_alloc (h : HR P mid J A w) (e : TypeId) (zs : List AV) (hz : zeroC P e = some zs) (ty : TypeId) (pos : String) (d af g) {o : AObj} {f : Nat → AV} (he : evNew env (.alloc e zs) = some (o, f)) :
    NewOk P mid J w o f ((execOp a.eval ⟨d, .alloc e, ty, pos, af, g⟩).run P w) := by
  simp only [evNew, Option.some.injEq, Prod.mk.injEq] at he
  obtain ⟨rfl, rfl⟩ := he
  simp only [zeroC, bind, Option.bind_eq_some_iff] at hz
  obtain ⟨i, hi, zv, hzv, hzz⟩ := hz
  have hzr : (zeroValue e).run P w = .ok zv w := by simp [zeroValue, typeInfo, hi, hzv]
  have hzVR : VRs J zs zv.cells.toList := absL_VRs J hzz
  refine ⟨.cells zv.cells e, .pointer (some ⟨w.heap.size, 0, none⟩), w.drawn, ?_, by intros; simp, fun i hi => ⟨new_cells h hzVR e i hi, by simp only [VR]; exact ⟨_, rfl, (ext_self _ _ _ _).1⟩⟩⟩
  simp [execOp, Instr.alloc, hzr, newVar, newRow]

theorem new_box (hE : VRs J env a.tmps.toList) (h : HR P mid J A w) {x : Operand} {x' : Opd} (hx : opd P.globals.size x = some x') (e : TypeId) (n : Nat) (ty : TypeId) (pos : String) (d af g) {o : AObj} {f : Nat → AV} (he : evNew env (.box e n x') = some (o, f)) :
    NewOk P mid J w o f ((execOp a.eval ⟨d, .box e x, ty, pos, af, g⟩).run P w) := by
  simp only [evNew] at he
  cases hc : Nat.beq (cellsOf (ev env x')).length n
  · rw [hc] at he; cases he
  · rw [hc] at he
    simp only [cond_true, Option.some.injEq, Prod.mk.injEq] at he
    obtain ⟨rfl, rfl⟩ := he
    refine ⟨.cells (a.eval x).cells e, .pointer (some ⟨w.heap.size, 0, none⟩), w.drawn, ?_, by intros; simp, fun i hi => ⟨new_cells h (cells_VR (ev_sim hE h hx)) e i hi, by simp only [VR]; exact ⟨_, rfl, (ext_self _ _ _ _).1⟩⟩⟩
    simp [execOp, Instr.box, newVar, newRow]

theorem new_mkMap (_h : HR P mid J A w) (t ty : TypeId) (pos : String) (d af g) {o : AObj} {f : Nat → AV} (he : evNew env .mkMap = some (o, f)) :
    NewOk P mid J w o f ((execOp a.eval ⟨d, .makeMap t none, ty, pos, af, g⟩).run P w) := by
  simp only [evNew, Option.some.injEq, Prod.mk.injEq] at he
  obtain ⟨rfl, rfl⟩ := he
  refine ⟨.map #[] 0, .map (some w.heap.size), w.drawn, ?_, by intros; simp, fun i hi => ⟨by simp only [OR]; exact ⟨#[], rfl, by simp [ERs]⟩, by simp only [VR]; exact ⟨_, rfl, (ext_self _ _ _ _).1⟩⟩⟩
  simp [execOp, Instr.makeMap]

theorem new_rngS (hE : VRs J env a.tmps.toList) (h : HR P mid J A w) {x : Operand} {x' : Opd} (hx : opd P.globals.size x = some x') (t : TypeId) (ht : P.underlying t = some .string) (ty : TypeId) (pos : String) (d af g) {o : AObj} {f : Nat → AV} (he : evNew env (.rngS x') = some (o, f)) :
    NewOk P mid J w o f ((execOp a.eval ⟨d, .range t x, ty, pos, af, g⟩).run P w) := by
  simp only [evNew] at he
  split at he
  · rename_i s hs
    simp only [Option.some.injEq, Prod.mk.injEq] at he
    obtain ⟨rfl, rfl⟩ := he
    have h1 := ev_sim hE h hx
    rw [hs] at h1; simp only [VR] at h1
    obtain ⟨u, e1, hu⟩ := h1
    refine ⟨.stringIter u 0, .pointer (some ⟨w.heap.size, 0, none⟩), w.drawn, ?_, by intros; simp, fun i hi => ⟨by simp only [OR]; exact ⟨u, rfl, hu⟩, by simp only [VR]; exact ⟨_, rfl, (ext_self _ _ _ _).1⟩⟩⟩
    simp [execOp, Instr.range, und_run ht, e1]
  · cases he

theorem rep_get {α : Type} (L : List α) : ∀ (n i : Nat), i < n * L.length → (List.replicate n L).flatten[i]? = L[i % L.length]? := by
  intro n
  induction n with
  | zero => intro i h; simp at h
  | succ n ih =>
    intro i h
    simp only [List.replicate_succ, List.flatten_cons]
    by_cases hi : i < L.length
    · rw [List.getElem?_append_left hi, Nat.mod_eq_of_lt hi]
    · rw [List.getElem?_append_right (by omega), ih _ (by rw [Nat.add_mul] at h; omega)]
      congr 1
      rw [← Nat.mod_eq_sub_mod (by omega)]

theorem range_cells {J : KW} {zs : List AV} {Z : Array Value} (hz : VRs J zs Z.toList) : ∀ (n : Nat), VRs J (List.replicate n zs).flatten ((Array.range (n * Z.size)).map (fun i => Z[i % Z.size]!)).toList := by
  intro n
  have hgen : ((Array.range (n * Z.size)).map (fun i => Z[i % Z.size]!)).toList = (List.replicate n Z.toList).flatten := by
    apply List.ext_getElem?
    intro i
    by_cases hi : i < n * Z.size
    · rw [rep_get Z.toList n i (by simpa using hi)]
      have hpos : 0 < Z.size := by
        rcases Nat.eq_zero_or_pos Z.size with h0 | h0
        · rw [h0] at hi; omega
        · exact h0
      have hm := Nat.mod_lt i hpos
      simp only [Array.toList_map, Array.toList_range, List.getElem?_map, List.getElem?_range hi, Option.map_some, Array.length_toList]
      rw [List.getElem?_eq_getElem (by simpa using hm)]
      congr 1
      rw [getElem!_pos Z (i % Z.size) hm]; rfl
    · rw [List.getElem?_eq_none (by simp; omega), List.getElem?_eq_none (by simp [List.length_flatten, List.map_replicate, List.sum_replicate_nat]; omega)]
  rw [hgen]
  clear hgen
  induction n with
  | zero => simp [VRs]
  | succ n ih => simp only [List.replicate_succ, List.flatten_cons]; exact hz.append ih

theorem new_buildS (hE : VRs J env a.tmps.toList) (h : HR P mid J A w) (t e : TypeId) (len s : Nat) (parts : Array (Nat × Operand)) (zs : List AV) (ps : List (Nat × Nat × Opd)) (ht : P.underlying t = some (.slice e)) (hs : szC P e = some s) (hbig : ¬ len * s > 2 ^ 24)
    (hz : zeroC P e = some zs) (hzs : zs.length = s) (hp : partsC P (fun i => some (i * s, s)) parts.toList = some ps) (ty : TypeId) (pos : String) (d af g) {o : AObj} {f : Nat → AV}
    (he : evNew env (.buildS e s len (List.replicate len zs).flatten ps) = some (o, f)) :
    NewOk P mid J w o f ((execOp a.eval ⟨d, .buildSlice t len parts, ty, pos, af, g⟩).run P w) := by
  simp only [evNew] at he
  split at he
  · rename_i cs hf
    simp only [Option.some.injEq, Prod.mk.injEq] at he
    obtain ⟨rfl, rfl⟩ := he
    simp only [zeroC, bind, Option.bind_eq_some_iff] at hz
    obtain ⟨i, hi, zv, hzv, hzz⟩ := hz
    have hzr : (zeroValue e).run P w = .ok zv w := by simp [zeroValue, typeInfo, hi, hzv]
    have hzVR : VRs J zs zv.cells.toList := absL_VRs J hzz
    have hzl : zv.cells.size = s := by have := hzVR.length; simp at this; omega
    have hmap : (parts.map fun (x : Nat × Operand) => (x.1, a.eval x.2)).toList = parts.toList.map fun (i, x) => (i, a.eval x) := by simp
    have hr := range_cells hzVR len
    rw [hzl] at hr
    obtain ⟨C, e1, e2⟩ := fill_sim hE h _ hp hr hf
    have hsz : C.size = len * s := by
      have h1 := e2.length
      have h2 : cs.length = ((List.replicate len zs).flatten).length := by
        have : ∀ (ps : List (Nat × Nat × AV)) (zs cs : List AV), fillA zs ps = some cs → cs.length = zs.length := by
          intro ps
          induction ps with
          | nil => intro zs cs h; simp only [fillA, Option.some.injEq] at h; subst h; rfl
          | cons p ps ih =>
            obtain ⟨o, n, v⟩ := p
            intro zs cs h
            simp only [fillA] at h
            cases hc : (Nat.beq (cellsOf v).length n && Nat.ble (o + n) zs.length)
            · rw [hc] at h; cases h
            · rw [hc] at h
              simp only [Bool.and_eq_true] at hc
              have h1 := Nat.eq_of_beq_eq_true hc.1
              have h2 := Nat.le_of_ble_eq_true hc.2
              have := ih _ _ h
              rw [this]; simp [splice]; omega
        exact this _ _ _ hf
      simp only [Array.length_toList] at h1
      rw [← h1, h2]
      simp [List.length_flatten, List.map_replicate, List.sum_replicate_nat, hzs]
    refine ⟨.cells C e, .slice (some ⟨w.heap.size, 0, none⟩) len len, w.drawn, ?_, by intros; simp, fun i hi => ⟨new_cells h e2 e i hi, ?_⟩⟩
    · have hzero : (if len * s = 0 then pure #[] else do pure (← zeroValue e).cells : Sem (Array Value)).run P w = .ok (if len * s = 0 then #[] else zv.cells) w := by
        split <;> simp [hzr]
      have hcells : (Array.range (len * s)).map (fun i => (if len * s = 0 then #[] else zv.cells)[i % (if len * s = 0 then #[] else zv.cells).size]!) = (Array.range (len * s)).map (fun i => zv.cells[i % s]!) := by
        by_cases h0 : len * s = 0
        · rw [h0]; simp
        · simp only [h0, if_false, hzl]
      simp only [execOp]
      rw [Sem.run_bind]
      have : (Instr.buildSlice t len (parts.map fun (x : Nat × Operand) => (x.1, a.eval x.2))).run P w = .ok (.slice (some ⟨w.heap.size, 0, none⟩) len len) { w with heap := w.heap.push (.cells C e) } := by
        have hinit : ∀ Z : Array Value, ((Array.range (len * s)).map (fun i => Z[i % Z.size]!)) = (Array.range (len * s)).map (fun i => zv.cells[i % s]!) →
            (Instr.fill (fun i => some (i * s, s)) ((Array.range (len * s)).map (fun i => Z[i % Z.size]!)) (parts.map fun (x : Nat × Operand) => (x.1, a.eval x.2)).toList) = some C := by
          intro Z hZ; rw [hZ, hmap]; exact e1
        simp only [Instr.buildSlice, Sem.run_bind, und_run ht, Result.andThen_ok, szC_run hs]
        rw [Sem.run_ite, if_neg hbig]
        by_cases h0 : len * s = 0
        · have h1 := hinit #[] (by rw [h0]; simp)
          simp only [Sem.run_bind, h0, if_true, Sem.run_pure, Result.andThen_ok]
          rw [h0] at h1
          simp only [h1]
          simp [newRow]
        · have h1 := hinit zv.cells (by rw [hzl])
          simp only [Sem.run_bind, h0, if_false, hzr, Sem.run_pure, Result.andThen_ok]
          simp only [h1]
          simp [newRow]
      rw [this]; rfl
    · simp only [VR]
      exact ⟨_, len, rfl, (ext_self _ _ _ _).1, Nat.le_refl _, Nat.le_refl _, by rw [(ext_self _ _ _ _).2]; simp [sizeOf', hsz]⟩
  · cases he

theorem new_mkS (hE : VRs J env a.tmps.toList) (h : HR P mid J A w) (t e : TypeId) (ie : TypeInfo) (zs : List AV) {n c : Operand} {n' c' : Opd} (hn : opd P.globals.size n = some n') (hc : opd P.globals.size c = some c') (ht : P.underlying t = some (.slice e)) (hi : P.info? e = some ie)
    (hz : zeroC P e = some zs) (hzs : zs.length = ie.size) (ty : TypeId) (pos : String) (d af g) {o : AObj} {f : Nat → AV} (he : evNew env (.mkS e ie.size ie.bytes zs n' c') = some (o, f)) :
    NewOk P mid J w o f ((execOp a.eval ⟨d, .makeSlice t n c, ty, pos, af, g⟩).run P w) := by
  simp only [evNew] at he
  have h1 := ev_sim hE h hn
  have h2 := ev_sim hE h hc
  split at he
  · rename_i nn cc hn1 hc1
    rw [hn1] at h1; rw [hc1] at h2
    simp only [VR] at h1 h2
    cases hcond : (decide (0 ≤ nn) && decide (nn ≤ cc) && Nat.ble cc.toNat big && Nat.ble (cc.toNat * ie.bytes) big && Nat.ble (cc.toNat * ie.size) big)
    · rw [hcond] at he; cases he
    · rw [hcond] at he
      simp only [cond_true, Option.some.injEq, Prod.mk.injEq] at he
      obtain ⟨rfl, rfl⟩ := he
      simp only [Bool.and_eq_true, decide_eq_true_eq] at hcond
      obtain ⟨⟨⟨⟨p1, p2⟩, p5⟩, p3⟩, p4⟩ := hcond
      have p5 := Nat.le_of_ble_eq_true p5
      have p3 := Nat.le_of_ble_eq_true p3
      have p4 := Nat.le_of_ble_eq_true p4
      unfold big at p3 p4 p5
      simp only [zeroC, bind, Option.bind_eq_some_iff] at hz
      obtain ⟨i, hi', zv, hzv, hzz⟩ := hz
      rw [hi] at hi'; cases hi'
      have hzr : ∀ w, (zeroValue e).run P w = .ok zv w := fun w => by simp [zeroValue, typeInfo, hi, hzv]
      have hzVR : VRs J zs zv.cells.toList := absL_VRs J hzz
      have hzl : zv.cells.size = ie.size := by have := hzVR.length; simp at this; omega
      have hr := range_cells hzVR cc.toNat
      rw [hzl] at hr
      have wn : IntKind.wrap .i64 nn = nn := by simp only [IntKind.wrap, IntKind.bits, IntKind.signed]; simp; omega
      have wc : IntKind.wrap .i64 cc = cc := by simp only [IntKind.wrap, IntKind.bits, IntKind.signed]; simp; omega
      have hcz : ((cc.toNat : Nat) : Int) = cc := by omega
      have hbytes : ¬ ((ie.bytes : Int) * cc > 2 ^ 48) := by
        have : (ie.bytes : Int) * cc = ((cc.toNat * ie.bytes : Nat) : Int) := by
          rw [Nat.mul_comm, Int.natCast_mul, hcz]
        rw [this]; omega
      have hC : ((Array.range (cc.toNat * ie.size)).map (fun i => zv.cells[i % ie.size]!)).size = cc.toNat * ie.size := by simp
      refine ⟨.cells ((Array.range (cc.toNat * ie.size)).map (fun i => zv.cells[i % ie.size]!)) e, .slice (some ⟨w.heap.size, 0, none⟩) nn.toNat cc.toNat, w.drawn, ?_, by intros; simp, fun i hi => ⟨new_cells h hr e i hi, ?_⟩⟩
      · have hcells : (Array.range (cc.toNat * ie.size)).map (fun i => (if cc.toNat * ie.size = 0 then #[] else zv.cells)[i % (if cc.toNat * ie.size = 0 then #[] else zv.cells).size]!) = (Array.range (cc.toNat * ie.size)).map (fun i => zv.cells[i % ie.size]!) := by
          by_cases h0 : cc.toNat * ie.size = 0
          · rw [h0]; simp
          · simp only [h0, if_false, hzl]
        have hzero : ∀ w, (if cc.toNat * ie.size = 0 then pure #[] else do pure (← zeroValue e).cells : Sem (Array Value)).run P w = .ok (if cc.toNat * ie.size = 0 then #[] else zv.cells) w := by
          intro w; split <;> simp [hzr]
        simp only [execOp]
        rw [Sem.run_bind]
        have : (Instr.makeSlice t (a.eval n) (a.eval c)).run P w = .ok (.slice (some ⟨w.heap.size, 0, none⟩) nn.toNat cc.toNat) { w with heap := w.heap.push (.cells ((Array.range (cc.toNat * ie.size)).map (fun i => zv.cells[i % ie.size]!)) e) } := by
          rw [h1, h2]
          simp only [Instr.makeSlice, Sem.run_bind, und_run ht, Result.andThen_ok, asInt, asIntOf, Sem.run_pure, typeInfo, run_program, hi, wn, wc]
          have hcond : ¬ ((decide (cc < 0) || decide ((ie.bytes : Int) * cc > 2 ^ 48) || decide (nn < 0) || decide (nn > cc)) = true) := by
            simp only [Bool.or_eq_true, decide_eq_true_eq]
            omega
          rw [Sem.run_ite, if_neg hcond]
          by_cases h0 : cc.toNat * ie.size = 0
          · simp only [Sem.run_bind, run_askRoom, Result.andThen_ok, szC_run (show szC P e = some ie.size by simp [szC, hi]), h0, if_true, Sem.run_pure]
            have e0 : ∀ f : Nat → Value, (Array.range 0).map f = #[] := by intro f; simp
            simp [newRow, e0]
          · simp only [Sem.run_bind, run_askRoom, Result.andThen_ok, szC_run (show szC P e = some ie.size by simp [szC, hi]), h0, if_false, hzr, Sem.run_pure]
            simp [newRow, hzl]
        rw [this]; rfl
      · simp only [VR]
        exact ⟨_, cc.toNat, rfl, (ext_self _ _ _ _).1, by omega, Nat.le_refl _, by rw [(ext_self _ _ _ _).2]; simp [sizeOf']⟩
  · cases he
end
end Go.Ae
/- One operation: what the evaluator answers, the model does: stores, texts as bytes, append, copy. -/
namespace Go.Ae
open Go
section
variable {P : Program} {mid : String → Option Nat} {T : Tab} {J : KW} {A : AW} {w : World} {env : List AV} {a : Act}

theorem sim_st (hE : VRs J env a.tmps.toList) (h : HR P mid J A w) {x v : Operand} {x' v' : Opd} (hx : opd P.globals.size x = some x') (hv : opd P.globals.size v = some v') (t : TypeId) (n : Nat) (hn : szC P t = some n) (ty : TypeId) (pos : String) (d af g) :
    OpOk P mid T J A w (evOp T env A (.st n x' v')) ((execOp a.eval ⟨d, .store t x v, ty, pos, af, g⟩).run P w) := by
  simp only [evOp]
  have h1 := ev_sim hE h hx
  have h2 := cells_VR (ev_sim hE h hv)
  simp only [execOp]
  split
  · rename_i b o hx1
    rw [hx1] at h1; simp only [VR] at h1
    obtain ⟨b', e1, hb⟩ := h1
    rw [e1]
    cases hc : Nat.beq (cellsOf (ev env v')).length n
    · exact True.intro
    · have hl := Nat.eq_of_beq_eq_true hc
      simp only [cond_true]
      split
      · rename_i A' hw
        obtain ⟨w', hr, hp⟩ := wr_sim h hw hb h2
        have hsz : (a.eval v).cells.size = n := by have := h2.length; simp at this; omega
        refine ⟨J, w', hp, .inr ⟨?_, rfl⟩⟩
        simp [Instr.storeAt, Instr.sureAddr, storeVar, szC_run hn, hsz, hr]
      · trivial
  · trivial

theorem push_modify (w : World) (c : Obj) (f : Obj → Obj) : (w.heap.push c).modify w.heap.size f = w.heap.push (f c) := by
  apply Array.ext_getElem?
  intro i
  rw [Array.getElem?_modify, Array.getElem?_push, Array.getElem?_push]
  by_cases h : w.heap.size = i
  · subst h; simp
  · rw [if_neg h]
    by_cases h2 : i = w.heap.size
    · exact absurd h2.symm h
    · rw [if_neg h2, if_neg h2]

theorem new_cvSB (hE : VRs J env a.tmps.toList) (h : HR P mid J A w) {x : Operand} {x' : Opd} (hx : opd P.globals.size x = some x') (s t e : TypeId) (hs : P.underlying s = some .string) (ht : P.underlying t = some (.slice e)) (he8 : P.underlying e = some (.int .u8))
    (ty : TypeId) (pos : String) (d af g) {o : AObj} {f : Nat → AV} (he : evNew env (.cvSB e x') = some (o, f)) :
    NewOk P mid J w o f ((execOp a.eval ⟨d, .convert s t x, ty, pos, af, g⟩).run P w) := by
  simp only [evNew] at he
  split at he
  · rename_i bs hs1
    simp only [Option.some.injEq, Prod.mk.injEq] at he
    obtain ⟨rfl, rfl⟩ := he
    have h1 := ev_sim hE h hx
    rw [hs1] at h1; simp only [VR] at h1
    obtain ⟨u, e1, hu⟩ := h1
    obtain ⟨cap, hcap⟩ : ∃ cap, cap = (Question.appendCap u.size 0 e).cut (w.tape w.drawn (.appendCap u.size 0 e)) := ⟨_, rfl⟩
    have hge : u.size ≤ cap := by rw [hcap]; simp [Question.cut]
    obtain ⟨C, hC⟩ : ∃ C : Array Value, C = (u.data.map fun b => Value.int .u8 b.toNat) ++ Array.replicate (cap - u.size) (.int .u8 0) := ⟨_, rfl⟩
    have hCs : C.size = cap := by rw [hC]; simp; show u.size + _ = _; omega
    refine ⟨.cells C e (C.size, C.size + 1), .slice (some ⟨w.heap.size, 0, none⟩) bs.length cap, w.drawn + 1, ?_, by intros; simp, fun i hi => ⟨?_, ?_⟩⟩
    · have hlen : bs.length = u.size := by rw [← hu]; rfl
      simp only [execOp]
      rw [e1]
      simp only [convert, Sem.run_bind, und_run hs, und_run ht, und_run he8, Result.andThen_ok, Conv.stringToBytes, run_choose]
      simp only [Question.forced, Bool.false_eq_true, if_false, Result.andThen_ok, ← hcap]
      simp only [newRow, Sem.run_bind, run_newObj, Result.andThen_ok, Sem.run_pure, markStringish, run_shape]
      have hsh : World.shape? { w with heap := w.heap.push (.cells C e), drawn := w.drawn + 1 } w.heap.size = some (e, C.size) := by
        simp [World.shape?]
      simp only [← hC]
      rw [hsh]
      simp only [run_freeze, Result.andThen_ok, Result.ok.injEq, hlen, true_and]
      simp only [World.freeze, Nat.one_ne_zero, if_false]
      rw [push_modify]
      simp
    · simp only [OR]
      refine ⟨C, _, rfl, ?_, fun _ => .inr (Nat.le_refl _)⟩
      have hl : (cellsOfBytes bs).length = u.size := by simp only [cellsOfBytes, List.length_map, ← hu]; rfl
      have htk : C.toList.take u.size = u.data.toList.map fun (b : UInt8) => Value.int .u8 b.toNat := by
        have hsz : (u.data.toList.map fun (b : UInt8) => Value.int .u8 b.toNat).length = u.size := by rw [List.length_map]; rfl
        rw [hC, Array.toList_append, Array.toList_map, ← hsz, List.take_left]
      rw [hl, htk]
      simp only [cellsOfBytes, ← hu]
      exact VRs.map _ _ _ fun b _ => by simp [VR]
    · simp only [VR]
      exact ⟨_, cap, rfl, (ext_self _ _ _ _).1, Nat.le_refl _, by rw [← hu]; exact hge, by rw [(ext_self _ _ _ _).2]; simp [sizeOf', hCs]⟩
  · cases he

theorem sim_cvSl (hE : VRs J env a.tmps.toList) (h : HR P mid J A w) {x : Operand} {x' : Opd} (hx : opd P.globals.size x = some x') (t e : TypeId) (ht : P.underlying t = some (.slice e)) (he8 : P.underlying e = some (.int .u8)) (ty : TypeId) (pos : String) (d af g) :
    OpOk P mid T J A w (evOp T env A (.cvSl x')) ((execOp a.eval ⟨d, .convert t t x, ty, pos, af, g⟩).run P w) := by
  simp only [evOp]
  have h1 := ev_sim hE h hx
  simp only [execOp]
  split
  · rename_i b o n c es hx1
    rw [hx1] at h1
    have h1' := h1
    simp only [VR] at h1
    obtain ⟨b', c', e1, hb, hn, hcc, hsz⟩ := h1
    split
    · rename_i cs e' hA
      obtain ⟨b2, cs', fr, hb2, hc, hv, hf, hle, hsg⟩ := h.cells hA
      rw [hb] at hb2; cases hb2
      rw [e1] at h1' ⊢
      obtain ⟨fr2, hfr2⟩ : ∃ fr2, (w.freeze { block := b', off := cs'.size } 1) = putB w b' (.cells cs' e' fr2) ∧ NF fr2 cs'.size := by
        obtain ⟨lo, hi⟩ := fr
        refine ⟨if lo == hi then (cs'.size, cs'.size + 1) else (min lo cs'.size, max hi (cs'.size + 1)), ?_, ?_⟩
        · simp only [World.freeze, Nat.one_ne_zero, if_false, putB, World.mk.injEq, and_true]
          apply Array.ext_getElem?
          intro i
          rw [Array.getElem?_modify, Array.getElem?_setIfInBounds]
          by_cases hi' : b' = i
          · subst hi'
            rw [if_pos rfl, if_pos rfl, if_pos (lt_of_get hc), hc]; rfl
          · rw [if_neg hi', if_neg hi']
        · have hf0 := hf rfl
          simp only [NF] at hf0 ⊢
          split
          · right; exact Nat.le_refl _
          · rename_i hne
            have hne' : lo ≠ hi := by simpa using hne
            right
            simp only
            omega
      have hsame : ∀ j, A.get j = if j = b then some (.cells cs e' false) else A.get j := by
        intro j
        by_cases e : j = b
        · subst e; simp [hA]
        · simp [e]
      refine ⟨J, _, post_updG h (A' := A) (i := b) (o1 := .cells cs e' false) (c1 := .cells cs' e' fr2) hsame rfl hA rfl hb ?_ ?_ (by intros; simp), .inl ⟨_, ?_, h1'⟩⟩
      · simp only [OR]; exact ⟨cs', fr2, rfl, hv, fun _ => hfr2.2⟩
      · intro cs2 e2 fr3 e3; cases e3; exact hsg
      · have hsh : w.shape? b' = some (e', cs'.size) := by simp [World.shape?, hc]
        simp [convert, und_run ht, und_run he8, markStringish, hsh, hfr2.1]
    · trivial
  · trivial
end
end Go.Ae
/- One operation: what the evaluator answers, the model does: append, copy. -/
namespace Go.Ae
open Go
section
variable {P : Program} {mid : String → Option Nat} {T : Tab} {J : KW} {A : AW} {w : World} {env : List AV} {a : Act}

theorem growBy_le (n : Nat) : ∀ (r c m : Nat), c ≤ m → Builtin.growBy n r c ≤ m * 2 ^ r + 192 * 2 ^ r := by
  intro r
  induction r with
  | zero => intro c m h; simp [Builtin.growBy]; omega
  | succ r ih =>
    intro c m h
    simp only [Builtin.growBy]
    have h2 : 2 ^ r ≥ 1 := Nat.one_le_two_pow
    split
    · have : m * 1 ≤ m * 2 ^ (r + 1) := Nat.mul_le_mul_left _ Nat.one_le_two_pow
      omega
    · have h1 := ih (c + (c + 768) / 4) (2 * m + 192) (by omega)
      have e : (2 * m + 192) * 2 ^ r + 192 * 2 ^ r = m * 2 ^ (r + 1) + 192 * 2 ^ (r + 1) := by
        rw [Nat.pow_succ]
        rw [Nat.add_mul]
        have : m * (2 ^ r * 2) = 2 * m * 2 ^ r := by rw [Nat.mul_comm (2 ^ r) 2, ← Nat.mul_assoc, Nat.mul_comm m 2]
        omega
      omega

theorem nextcap_le (need cap : Nat) (h : cap < need) : Builtin.nextslicecap need cap ≤ 16 * need + 3072 := by
  unfold Builtin.nextslicecap
  split
  · omega
  · split
    · omega
    · have := growBy_le need 4 cap need (by omega)
      omega

/-- reading what is appended or copied -/
theorem firstCells_run (h : HR P mid J A w) {es : Nat} {x : AV} {v : Value} (hv : VR J x v) {cs : List AV} (hc : content A es x = some cs)  (hes : es ≠ 0) :
    ∃ (n : Nat) (vs : List Value), (∀ w', (Builtin.lenOf v).run P w' = .ok n w') ∧ n * es = cs.length ∧ VRs J cs vs ∧ (Builtin.firstCells es n v).run P w = .ok vs.toArray w ∧
      (∀ m, m ≤ n → (Builtin.firstCells es m v).run P w = .ok (vs.take (m * es)).toArray w) := by
  rcases content_sim (P := P) h hv hc with ⟨u, h1, e1, ex, e3⟩ | ⟨c, e1, e3⟩ | ⟨ad, c, e1, e3⟩ | ⟨b, o, n, c, es', b', c', vs, _, he', e1, hJ, hvv, hlen, hl, cs', e', fr, hhp, hsz, hvs⟩
  · subst h1 e1 e3
    have hlen : (u.data.toList).length = u.size := rfl
    have key : ∀ m, m ≤ u.size → (Builtin.firstCells 1 m (.string u)).run P w = .ok ((u.data.toList.map fun (b : UInt8) => Value.int .u8 b.toNat).take (m * 1)).toArray w := by
      intro m hm
      simp only [Builtin.firstCells, Sem.run_pure, Result.ok.injEq, and_true]
      apply Array.toList_inj.1
      rw [Array.toList_map]
      simp only [Nat.mul_one]
      rw [← List.map_take]
      congr 1
      simp [ByteArray.data_extract, List.extract_eq_take_drop]
    refine ⟨u.size, u.data.toList.map fun (b : UInt8) => Value.int .u8 b.toNat, fun w' => rfl, by simp [cellsOfBytes, hlen], ?_, ?_, key⟩
    · simp only [cellsOfBytes]
      exact VRs.map _ _ _ fun b _ => by simp [VR]
    · have := key u.size (Nat.le_refl _)
      rw [this, List.take_of_length_le (by simp [hlen])]
  · subst e1 e3
    refine ⟨0, [], fun w' => rfl, by simp, by simp [VRs], by simp [Builtin.firstCells], fun m hm => by simp [Builtin.firstCells]⟩
  · subst e1 e3
    have : ∀ m, m ≤ 0 → (Builtin.firstCells es m (.slice (some ad) 0 c)).run P w = .ok #[] w := by
      intro m hm
      obtain rfl : m = 0 := by omega
      simp [Builtin.firstCells, loadCells, loadCellsFrom]
    refine ⟨0, [], fun w' => rfl, by simp, by simp [VRs], this 0 (Nat.le_refl _), fun m hm => by simpa using this m hm⟩
  · subst he' e1
    refine ⟨n, vs, fun w' => rfl, by omega, hvv, hl, ?_⟩
    intro m hm
    have hmn : m * es ≤ n * es := Nat.mul_le_mul_right _ hm
    have := run_loadCellsFrom P w b' o cs' e' fr hhp (m * es) 0 #[] (by omega)
    simp only [Builtin.firstCells, loadCells]
    rw [this, hvs, List.take_take, Nat.min_eq_left hmn]
    simp

theorem sim_cpy (hE : VRs J env a.tmps.toList) (h : HR P mid J A w) {x y : Operand} {x' y' : Opd} (hx : opd P.globals.size x = some x') (hy : opd P.globals.size y = some y') (at_ : Array TypeId) (t e : TypeId) (es : Nat) (hat : at_[0]? = some t) (ht : P.underlying t = some (.slice e)) (hs : szC P e = some es)
    (ty : TypeId) (pos : String) (d af g) :
    OpOk P mid T J A w (evOp T env A (.cpy es x' y')) ((execOp a.eval ⟨d, .call { callee := .builtin .copy, args := #[x, y], argTypes := at_ }, ty, pos, af, g⟩).run P w) := by
  simp only [evOp]
  cases h0 : Nat.beq es 0
  · have hes : es ≠ 0 := Nat.ne_of_beq_eq_false h0
    simp only [cond_false]
    have h1 := ev_sim hE h hx
    have h2 := ev_sim hE h hy
    simp only [execOp]
    have step : ∀ v' w', (Builtin.copy_ at_ ty #[a.eval x, a.eval y]).run P w = .ok v' w' → ((resolve a.eval { callee := .builtin .copy, args := #[x, y], argTypes := at_ } ty >>= fun d => invoke d.target d.args).run P w) = .ok (.value v') w' := by
      intro v' w' e
      simp [resolve, invoke, builtin, e]
    split
    · rename_i q n c es' hx1
      rw [hx1] at h1
      split
      · rename_i cs hc
        obtain ⟨ns, vs, hl, hnl, hvs, hf, hfm⟩ := firstCells_run (P := P) h h2 hc hes
        have hdiv : cs.length / es = ns := by rw [← hnl]; exact Nat.mul_div_cancel _ (by omega)
        have hlv := hvs.length
        rw [hdiv]
        obtain ⟨m, hm⟩ : ∃ m, min ns n = m := ⟨_, rfl⟩
        have hmn : m ≤ ns := by omega
        have hdst : ∃ ad c', a.eval x = .slice ad n c' := by
          cases q <;> simp only [VR] at h1
          · obtain ⟨rfl, _, e1⟩ := h1; exact ⟨_, _, e1⟩
          · obtain ⟨rfl, _, ad, c', e1⟩ := h1; exact ⟨_, _, e1⟩
          · obtain ⟨b', c', e1, _⟩ := h1; exact ⟨_, _, e1⟩
        cases q with
        | nil =>
          simp only [VR] at h1
          obtain ⟨rfl, _, e1⟩ := h1
          obtain rfl : m = 0 := by omega
          refine ok_val h (v' := .int .i64 0) (step _ _ ?_) (by simp [VR])
          rw [e1]
          simp [Builtin.copy_, hat, und_run ht, hl, szC_run hs, hfm 0 (by omega), goInt]
        | emp =>
          simp only [VR] at h1
          obtain ⟨rfl, _, ad, c', e1⟩ := h1
          obtain rfl : m = 0 := by omega
          refine ok_val h (v' := .int .i64 0) (step _ _ ?_) (by simp [VR])
          rw [e1]
          simp [Builtin.copy_, hat, und_run ht, hl, szC_run hs, hfm 0 (by omega), goInt, storeCells]
        | pos b o =>
          simp only [VR] at h1
          obtain ⟨b', c', e1, hb, _⟩ := h1
          simp only [hm]
          cases he : Nat.beq es es'
          · exact True.intro
          · simp only [cond_true]
            split
            · rename_i A' hw
              have hvm : VRs J (cs.take (m * es)) (vs.take (m * es)) := hvs.take _
              obtain ⟨w', hr, hp⟩ := wr_sim (P := P) (mid := mid) h hw hb hvm
              refine ⟨J, w', hp, .inl ⟨.int .i64 m, step _ _ ?_, by simp [VR]⟩⟩
              rw [e1]
              have hnm : Nat.min ns n = m := hm
              simp [Builtin.copy_, hat, und_run ht, hl, szC_run hs, hnm, hfm m hmn, goInt, hr]
            · trivial
      · trivial
    · trivial
  · exact True.intro

theorem append_fits {at_ : Array TypeId} {t t2 e ty : TypeId} {d2 : TypeDesc} {es : Nat} (hat : at_[0]? = some t) (hat2 : at_[1]? = some t2) (ht : P.underlying t = some (.slice e)) (ht2 : P.underlying t2 = some d2) (hd2 : (∃ e2, d2 = .slice e2) ∨ d2 = .string) (hs : szC P e = some es)
    {base : Option Addr} {n C ns : Nat} {v : Value} {vs : List Value} (hl : ∀ w', (Builtin.lenOf v).run P w' = .ok ns w') (hf : (Builtin.firstCells es ns v).run P w = .ok vs.toArray w) (hle : n + ns ≤ C) :
    (Builtin.append_ at_ ty #[.slice base n C, v]).run P w = match base with
      | none => .ok (.slice none (n + ns) C) w
      | some ad => ((storeCells (ad.add (n * es)) vs).run P w).andThen fun _ w' => .ok (.slice (some ad) (n + ns) C) w' := by
  rcases hd2 with ⟨e2, rfl⟩ | rfl
  · cases base <;> simp [Builtin.append_, hat, hat2, und_run ht, und_run ht2, szC_run hs, hl, hf, hle]
  · cases base <;> simp [Builtin.append_, hat, hat2, und_run ht, und_run ht2, szC_run hs, hl, hf, hle]

theorem append_grows {at_ : Array TypeId} {t t2 e ty : TypeId} {d2 : TypeDesc} {ie : TypeInfo} {z : Value} (hat : at_[0]? = some t) (hat2 : at_[1]? = some t2) (ht : P.underlying t = some (.slice e)) (ht2 : P.underlying t2 = some d2) (hd2 : (∃ e2, d2 = .slice e2) ∨ d2 = .string) (hi : P.info? e = some ie) (hz : ie.zero = some z)
    {base : Option Addr} {n C ns : Nat} {v : Value} {vs old : List Value} (hl : ∀ w', (Builtin.lenOf v).run P w' = .ok ns w') (hf : (Builtin.firstCells ie.size ns v).run P w.drew = .ok vs.toArray w.drew) (hlt : C < n + ns)
    (hold : (Builtin.firstCells ie.size n (.slice base n C)).run P w.drew = .ok old.toArray w.drew) (b1 : (n + ns) * ie.bytes ≤ 4294967296) (b2 : (n + ns) * ie.size ≤ 4294967296) (h0 : ie.size ≠ 0) :
    ∃ cap cs, n + ns ≤ cap ∧ cs = old.toArray ++ (vs.toArray ++ Builtin.zeroCells z.cells (cap - (n + ns))) ∧ (Builtin.append_ at_ ty #[.slice base n C, v]).run P w = .ok (.slice (some ⟨w.heap.size, 0, none⟩) (n + ns) cap) { w.drew with heap := w.drew.heap.push (.cells cs e) } := by
  have hzr : ∀ w, (zeroValue e).run P w = .ok z w := fun w => by simp [zeroValue, typeInfo, hi, hz]
  have hs : szC P e = some ie.size := by simp [szC, hi]
  have hneed : n + ns ≤ 4294967296 := by
    have : (n + ns) * 1 ≤ (n + ns) * ie.size := Nat.mul_le_mul_left _ (by omega)
    omega
  have hby : ie.bytes ≤ 4294967296 := by
    have : 1 * ie.bytes ≤ (n + ns) * ie.bytes := Nat.mul_le_mul_right _ (by omega)
    omega
  have hnc := nextcap_le (n + ns) C hlt
  have hlim : ¬ (Builtin.nextslicecap (n + ns) C * ie.bytes > 2 ^ 48) := by
    have h1 : Builtin.nextslicecap (n + ns) C * ie.bytes ≤ (16 * (n + ns) + 3072) * ie.bytes := Nat.mul_le_mul_right _ hnc
    have h2 : (16 * (n + ns) + 3072) * ie.bytes = 16 * ((n + ns) * ie.bytes) + 3072 * ie.bytes := by rw [Nat.add_mul, Nat.mul_assoc]
    omega
  have himax : IntKind.max .i64 = 9223372036854775807 := by decide
  have hgt : ¬ (((n + ns : Nat) : Int) > IntKind.max .i64) := by rw [himax]; omega
  obtain ⟨cap, hcap⟩ : ∃ cap, cap = (Question.appendCap (n + ns) C e).cut (w.tape w.drawn (.appendCap (n + ns) C e)) := ⟨_, rfl⟩
  obtain ⟨cs, hcs⟩ : ∃ cs, cs = old.toArray ++ (vs.toArray ++ Builtin.zeroCells z.cells (cap - (n + ns))) := ⟨_, rfl⟩
  refine ⟨cap, cs, by rw [hcap]; simp [Question.cut], hcs, ?_⟩
  have hti : ∀ w, (typeInfo e).run P w = .ok ie w := fun w => by simp [typeInfo, hi]
  have hnle : ¬ (n + ns ≤ C) := by omega
  have hgt' : ¬ ((n : Int) + (ns : Int) > IntKind.max .i64) := by simpa using hgt
  rcases hd2 with ⟨e2, rfl⟩ | rfl
  · simp [Builtin.append_, hat, hat2, und_run ht, und_run ht2, szC_run hs, hl, hnle, hti, hlim, Question.forced, ← hcap, hzr, newRow]
    rw [if_neg (by omega), hold]
    simp only [Result.andThen_ok]
    rw [hf]
    simp only [Result.andThen_ok]
    rw [← hcs]
    rfl
  · simp [Builtin.append_, hat, hat2, und_run ht, und_run ht2, szC_run hs, hl, hnle, hti, hlim, Question.forced, ← hcap, hzr, newRow]
    rw [if_neg (by omega), hold]
    simp only [Result.andThen_ok]
    rw [hf]
    simp only [Result.andThen_ok]
    rw [← hcs]
    rfl


theorem ERs.mono {J J' : KW} (h : KW.le J J') : ∀ (es : List (AV × AV × Nat)) (l : List MapEntry), ERs J es l → ERs J' es l := by
  intro es
  induction es with
  | nil => intro l e2; simpa only [ERs] using e2
  | cons x xs ih =>
    intro l e2
    obtain ⟨k, v, n⟩ := x
    simp only [ERs] at e2 ⊢
    obtain ⟨e, rest, e1, h1, h2, h3, h4⟩ := e2
    exact ⟨e, rest, e1, VR.mono h _ _ h1, VR.mono h _ _ h2, h3, ih _ h4⟩

theorem OR.mono {J J' : KW} (h : KW.le J J') {o : AObj} {c : Obj} (hor2 : OR P mid J o c) : OR P mid J' o c := by
  cases o with
  | cells cs e ro =>
    simp only [OR] at hor2 ⊢
    obtain ⟨cs', fr, e1, e2, e3⟩ := hor2
    exact ⟨cs', fr, e1, VRs.mono h _ _ e2, e3⟩
  | map es ck =>
    simp only [OR] at hor2 ⊢
    obtain ⟨es', e1, e2⟩ := hor2
    exact ⟨es', e1, ERs.mono h _ _ e2⟩
  | loop st pend fn env ps asg body dfd =>
    simp only [OR] at hor2 ⊢
    obtain ⟨r, e1, e2, e3, e4, e5, e6, e7, e8, e9⟩ := hor2
    exact ⟨r, e1, e2, e3, e4, VRs.mono h _ _ e5, e6, e7, e8, (h _ _ e9).1⟩
  | dfr l => simpa only [OR] using hor2
  | iter s p => simpa only [OR] using hor2
  | dead => trivial

theorem post_kill (h : HR P mid J A w) {i : Nat} {o : AObj} (hi : A.get i = some o) : Post P mid J A w J (A.set i .dead) w := by
  refine ⟨KW.le_refl J, ⟨?_, ?_, h.dom, h.sig, ?_, h.gl⟩, Nat.le_refl _, rfl, rfl, rfl, Nat.le_refl _, fun _ _ _ => rfl, ?_, ?_, fun _ _ h => .inl h⟩
  · intro j oj hj
    rw [AW.get_set] at hj
    split at hj
    · rename_i e; subst e; cases hj
      obtain ⟨b, c, hb, hc, _⟩ := h.obj j o hi
      exact ⟨b, c, hb, hc, trivial⟩
    · exact h.obj j oj hj
  · intro j k oj ok hj hk hlj hlk e
    rw [AW.get_set] at hj hk
    split at hj
    · cases hj; cases hlj
    · split at hk
      · cases hk; cases hlk
      · exact h.inj j k oj ok hj hk hlj hlk e
  · intro j hj
    rw [AW.get_set]
    split
    · rename_i e; subst e
      obtain ⟨b, _, hb, _⟩ := h.obj j o hi
      have := (h.dom j b hb).1
      simp at hj; omega
    · exact h.fresh j hj
  · intro j oj b2 hj hlj hb2
    rw [AW.get_set] at hj
    split at hj
    · cases hj; cases hlj
    · exact .inr ⟨j, oj, hj, hlj, hb2, id⟩
  · intro j cs e hj
    rw [AW.get_set] at hj
    split at hj
    · cases hj
    · exact hj

/-- a live object takes a new name -/
theorem post_alias (h : HR P mid J A w) {i b : Nat} {o : AObj} (hi : A.get i = some o) (hm : muta o = true) (hb : J.ι i = some b) :
    Post P mid J A w ⟨fun j => if j = A.nx then some b else J.ι j, J.σ⟩ ((A.set i .dead).new o) w ∧ KW.le J ⟨fun j => if j = A.nx then some b else J.ι j, J.σ⟩ := by
  have hlt := (h.dom i b hb).1
  have hle : KW.le J ⟨fun j => if j = A.nx then some b else J.ι j, J.σ⟩ := by
    intro j c hj
    have := (h.dom j c hj).1
    refine ⟨?_, rfl⟩
    simp only
    rw [if_neg (by omega)]; exact hj
  have hget : ∀ j, ((A.set i .dead).new o).get j = if j = A.nx then some o else if j = i then some .dead else A.get j := by
    intro j; rw [AW.get_new, AW.get_set]; rfl
  refine ⟨⟨hle, ⟨?_, ?_, ?_, ?_, ?_, ?_⟩, Nat.le_refl _, rfl, rfl, rfl, by simp, fun _ _ _ => rfl, ?_, ?_, ?_⟩, hle⟩
  · intro j oj hj
    rw [hget] at hj
    split at hj
    · rename_i e; subst e; cases hj
      obtain ⟨b2, c, hb2, hc, hor⟩ := h.obj i o hi
      rw [hb] at hb2; cases hb2
      exact ⟨b, c, by simp, hc, hor.mono hle⟩
    · split at hj
      · rename_i e; subst e; cases hj
        obtain ⟨b2, c, hb2, hc, _⟩ := h.obj j o hi
        exact ⟨b2, c, (hle j b2 hb2).1, hc, trivial⟩
      · obtain ⟨b2, c, hb2, hc, hor⟩ := h.obj j oj hj
        exact ⟨b2, c, (hle j b2 hb2).1, hc, hor.mono hle⟩
  · intro j k oj ok hj hk hlj hlk e
    rw [hget] at hj hk
    simp only at e
    split at hj
    · rename_i e1
      cases hj
      split at hk
      · rename_i e2; rw [e1, e2]
      · rename_i e2
        split at hk
        · cases hk; cases hlk
        · rename_i e3
          rw [if_pos e1, if_neg e2] at e
          exact absurd (h.inj i k o ok hi hk hlj hlk (hb.trans e)) (Ne.symm e3)
    · rename_i e1
      split at hj
      · cases hj; cases hlj
      · rename_i e3
        split at hk
        · rename_i e2; cases hk
          rw [if_neg e1, if_pos e2] at e
          exact absurd (h.inj j i oj o hj hi hlj hlk (e.trans hb.symm)) e3
        · rename_i e2
          split at hk
          · cases hk; cases hlk
          · rw [if_neg e1, if_neg e2] at e
            exact h.inj j k oj ok hj hk hlj hlk e
  · intro j b2 hj
    simp only at hj
    split at hj
    · rename_i e; subst e; cases hj; exact ⟨by simp, (h.dom i b hb).2⟩
    · have := h.dom j b2 hj; exact ⟨by simp; omega, this.2⟩
  · intro j b2 cs e fr hj hc
    simp only at hj
    split at hj
    · cases hj; exact h.sig i b cs e fr hb hc
    · exact h.sig j b2 cs e fr hj hc
  · intro j hj
    simp at hj
    rw [hget, if_neg (by omega), if_neg (by omega)]
    exact h.fresh j (by omega)
  · intro g hg
    exact (hle g g (h.gl g hg)).1
  · intro j oj b2 hj hlj hb2
    rw [hget] at hj
    simp only at hb2
    right
    split at hj
    · rename_i e; cases hj
      rw [if_pos e] at hb2; cases hb2
      exact ⟨i, o, hi, hlj, hb, id⟩
    · rename_i e
      rw [if_neg e] at hb2
      split at hj
      · cases hj; cases hlj
      · exact ⟨j, oj, hj, hlj, hb2, id⟩
  · intro j cs e hj
    rw [hget] at hj
    split at hj
    · cases hj; cases hm
    · split at hj
      · cases hj
      · exact hj
  · intro j c hj
    simp only at hj
    split at hj
    · rename_i e; subst e; exact .inr (Nat.le_refl _)
    · exact .inl hj

theorem Post.drew (h : HR P mid J A w) : Post P mid J A w J A w.drew where
  le := KW.le_refl J
  hr := h.drawn rfl
  sz := Nat.le_refl _
  os := rfl
  tape := rfl
  out := rfl
  nx := Nat.le_refl _
  fr := fun _ _ _ => rfl
  foot := fun i o _ hi hl hb => .inr ⟨i, o, hi, hl, hb, id⟩
  ro := fun _ _ _ h => h
  dm := fun _ _ h => .inl h
end
end Go.Ae
/- One operation: what the evaluator answers, the model does: append. -/
namespace Go.Ae
open Go
section
variable {P : Program} {mid : String → Option Nat} {T : Tab} {J : KW} {A : AW} {w : World} {env : List AV} {a : Act}

/-- what stands behind a slice of new memory -/
theorem apd_new (h : HR P mid J A w) {new old : List AV} {vs ovs : List Value} {e : TypeId} {zs : Array Value} {es need cap : Nat} (hn : VRs J new vs) (ho : VRs J old ovs) (hlen : old.length + new.length = need * es) (hcap : need ≤ cap) (hz : zs.size = (cap - need) * es) :
    ∃ J', Post P mid J A w J' (A.new (.cells (old ++ new) e false)) { w with heap := w.heap.push (.cells (ovs.toArray ++ (vs.toArray ++ zs)) e) } ∧ VR J' (.slc (.pos A.nx 0) need need es) (.slice (some ⟨w.heap.size, 0, none⟩) need cap) := by
  have h1 := hn.length
  have h2 := ho.length
  have hc : need * es + (cap - need) * es = cap * es := by rw [← Nat.add_mul]; congr 1; omega
  have key := post_new (P := P) (mid := mid) h (o := .cells (old ++ new) e false) (c := .cells (ovs.toArray ++ (vs.toArray ++ zs)) e) (by intro cs e h; cases h)
  have hle : KW.le J (J.ext A.nx w.heap.size (sizeOf' (.cells (ovs.toArray ++ (vs.toArray ++ zs)) e))) := by
    refine KW.le_ext ?_ fun j d hj => by have := (h.dom j d hj).2; omega
    cases hj : J.ι A.nx with
    | none => rfl
    | some b => have := (h.dom _ _ hj).1; omega
  refine ⟨_, (key ?_).1, ?_⟩
  · simp only [OR]
    refine ⟨_, _, rfl, ?_, fun _ => .inl rfl⟩
    have e1 : (ovs.toArray ++ (vs.toArray ++ zs)).toList.take (old ++ new).length = ovs ++ vs := by
      simp only [Array.toList_append, ← List.append_assoc]
      rw [List.take_left' (by simp; omega)]
    rw [e1]
    exact VRs.append (VRs.mono hle _ _ ho) (VRs.mono hle _ _ hn)
  · simp only [VR]
    refine ⟨w.heap.size, cap, rfl, by simp [KW.ext], Nat.le_refl _, hcap, ?_⟩
    simp [KW.ext, sizeOf']; omega

theorem sim_apd (hE : VRs J env a.tmps.toList) (h : HR P mid J A w) {x y : Operand} {x' y' : Opd} (hx : opd P.globals.size x = some x') (hy : opd P.globals.size y = some y') (at_ : Array TypeId) (t t2 e : TypeId) (d2 : TypeDesc) (ie : TypeInfo) (z : Value) (hat : at_[0]? = some t) (hat2 : at_[1]? = some t2)
    (ht : P.underlying t = some (.slice e)) (ht2 : P.underlying t2 = some d2) (hd2 : (∃ e2, d2 = .slice e2) ∨ d2 = .string) (hi : P.info? e = some ie) (hz : ie.zero = some z) (hzs : z.cells.size = ie.size)
    (ty : TypeId) (pos : String) (d af g) :
    OpOk P mid T J A w (evOp T env A (.apd e ie.size ie.bytes x' y')) ((execOp a.eval ⟨d, .call { callee := .builtin .append, args := #[x, y], argTypes := at_ }, ty, pos, af, g⟩).run P w) := by
  simp only [evOp]
  have h1 := ev_sim hE h hx
  have h2 := ev_sim hE h hy
  simp only [execOp]
  have hs : szC P e = some ie.size := by simp [szC, hi]
  have step : ∀ v' w', (Builtin.append_ at_ ty #[a.eval x, a.eval y]).run P w = .ok v' w' → ((resolve a.eval { callee := .builtin .append, args := #[x, y], argTypes := at_ } ty >>= fun d => invoke d.target d.args).run P w) = .ok (.value v') w' := by
    intro v' w' e
    simp [resolve, invoke, builtin, e]
  have hzc : ∀ m, (Builtin.zeroCells z.cells m).size = m * ie.size := by
    intro m; rw [← hzs]; simp [Builtin.zeroCells]
  split
  · rename_i q n c es' hx1
    rw [hx1] at h1
    split
    · rename_i new hc
      cases hg1 : (Nat.beq ie.size 0 || !(new.all one))
      · simp only [cond_false]
        simp only [Bool.or_eq_false_iff, Bool.not_eq_false'] at hg1
        have hes : ie.size ≠ 0 := Nat.ne_of_beq_eq_false hg1.1
        cases hg2 : (!(Nat.beq (new.length % ie.size) 0))
        · simp only [cond_false]
          obtain ⟨ns, vs, hl, hnl, hvs, hf, _⟩ := firstCells_run (P := P) h h2 hc hes
          have hdiv : new.length / ie.size = ns := by rw [← hnl]; exact Nat.mul_div_cancel _ (by omega)
          have hlv := hvs.length
          rw [hdiv]
          cases hg3 : (!(Nat.ble ((n + ns) * ie.bytes) big) || !(Nat.ble ((n + ns) * ie.size) big))
          · simp only [cond_false]
            simp only [Bool.or_eq_false_iff, Bool.not_eq_false'] at hg3
            have b1 := Nat.le_of_ble_eq_true hg3.1
            have b2 := Nat.le_of_ble_eq_true hg3.2
            unfold big at b1 b2
            have hdr : HR P mid J A w.drew := h.drawn rfl
            have hf' : ∃ vs2, VRs J new vs2 ∧ (Builtin.firstCells ie.size ns (a.eval y)).run P w.drew = .ok vs2.toArray w.drew := by
              obtain ⟨ns2, vs2, hl2, hnl2, hvs2, hf2, _⟩ := firstCells_run (P := P) hdr h2 hc hes
              have : ns2 = ns := by
                rw [← hnl] at hnl2
                exact Nat.eq_of_mul_eq_mul_right (by omega) hnl2
              subst this
              exact ⟨vs2, hvs2, hf2⟩
            have hmul : (n + ns) * ie.size = n * ie.size + new.length := by rw [Nat.add_mul, hnl]
            cases q with
            | nil =>
              simp only [VR] at h1
              obtain ⟨rfl, rfl, e1⟩ := h1
              simp only
              cases hb : Nat.beq new.length 0
              · have hne := Nat.ne_of_beq_eq_false hb
                have hns : 0 < ns := by
                  rcases Nat.eq_zero_or_pos ns with h0 | h0
                  · rw [h0] at hnl; simp at hnl; omega
                  · exact h0
                simp only [cond_false]
                obtain ⟨vs2, hvs2, hf2⟩ := hf'
                obtain ⟨cap, cs, hcap, hcs, hrun⟩ := append_grows (P := P) (w := w) (ty := ty) (base := none) (n := 0) (C := 0) hat hat2 ht ht2 hd2 hi hz hl hf2 (by omega) (old := []) (by simp [Builtin.firstCells]) b1 b2 hes
                obtain ⟨J', hp, hv⟩ := apd_new (P := P) (mid := mid) hdr (e := e) (es := ie.size) (need := 0 + ns) (cap := cap) (zs := Builtin.zeroCells z.cells (cap - (0 + ns))) hvs2 (VRs.nil) (by simpa using hnl.symm) hcap (hzc _)
                subst hcs
                refine ⟨J', _, (Post.drew h).trans hp, .inl ⟨_, step _ _ (by rw [e1]; exact hrun), hv⟩⟩
              · have hb' := Nat.eq_of_beq_eq_true hb
                have h0 : ns = 0 := by
                  have : ns * ie.size = 0 := by omega
                  rcases Nat.mul_eq_zero.1 this with h | h
                  · exact h
                  · omega
                subst h0
                simp only [cond_true]
                have := append_fits (P := P) (w := w) (ty := ty) (base := none) (n := 0) (C := 0) hat hat2 ht ht2 hd2 hs hl hf (by omega)
                refine ok_val h (v' := .slice none 0 0) (step _ _ (by rw [e1]; exact this)) (by simp [VR])
            | emp => exact True.intro
            | pos b o =>
              simp only [VR] at h1
              obtain ⟨b', c', e1, hb, hnc, hcc, hsg⟩ := h1
              simp only
              cases he : (!(Nat.beq ie.size es'))
              · simp only [cond_false]
                simp only [Bool.not_eq_false'] at he
                have he := Nat.eq_of_beq_eq_true he
                subst he
                cases hfit : Nat.ble (n + ns) c
                · simp only [cond_false]
                  have hnfit : ¬ (n + ns ≤ c) := by intro hh; rw [Nat.ble_eq_true_of_le hh] at hfit; cases hfit
                  split
                  · rename_i cs e' hgb
                    cases hg4 : (Nat.beq o 0 && Nat.beq cs.length (c * ie.size) && Nat.beq e e')
                    · exact True.intro
                    · simp only [cond_true]
                      simp only [Bool.and_eq_true] at hg4
                      obtain rfl := Nat.eq_of_beq_eq_true hg4.1.1
                      have hcl := Nat.eq_of_beq_eq_true hg4.1.2
                      have hee : e = e' := Nat.eq_of_beq_eq_true hg4.2
                      subst hee
                      obtain ⟨b2, cs', fr, hb2, hcc', hvcs, hnf, hle, hsig⟩ := h.cells hgb
                      rw [hb] at hb2; cases hb2
                      have hnes : n * ie.size ≤ cs.length := by rw [hcl]; exact Nat.mul_le_mul_right _ hnc
                      have hold : VRs J (cs.take (n * ie.size)) (cs'.toList.take (n * ie.size)) := by
                        have := hvcs.take (n * ie.size)
                        rwa [List.take_take, Nat.min_eq_left hnes] at this
                      by_cases hin : n + ns ≤ c'
                      · -- in place
                        have hfits := append_fits (P := P) (w := w) (ty := ty) (base := some ⟨b', 0, none⟩) (n := n) (C := c') hat hat2 ht ht2 hd2 hs hl hf hin
                        simp only [add_none, Nat.zero_add] at hfits
                        have hcs' : (n + ns) * ie.size ≤ cs'.size := by
                          have : (n + ns) * ie.size ≤ c' * ie.size := Nat.mul_le_mul_right _ hin
                          omega
                        have hrun := run_storeCells P b' (n * ie.size) e fr vs 0 cs' w hcc' (hnf rfl) (by omega) (ones hvs hg1.2)
                        rw [hrun] at hfits
                        simp only [Result.andThen_ok, Nat.add_zero] at hfits
                        obtain ⟨hp1, hle1⟩ := post_alias (P := P) (mid := mid) h hgb rfl hb
                        have hup := post_updG (P := P) (mid := mid) hp1.hr (A' := (A.set b .dead).new (.cells (cs.take (n * ie.size) ++ new) e false)) (i := A.nx) (b := b') (o := .cells cs e false) (o1 := .cells (cs.take (n * ie.size) ++ new) e false) (c1 := .cells (over cs' (n * ie.size) vs) e fr)
                          (by intro j; simp only [AW.get_new, AW.get_set, AW.nx_set]; split <;> rfl) rfl (by simp [AW.get_new]) rfl (by simp)
                          (by
                            simp only [OR]
                            refine ⟨_, fr, rfl, ?_, fun _ => by rw [over_size]; exact hnf rfl⟩
                            rw [over_toList _ _ _ (by omega)]
                            have e2 : (cs'.toList.take (n * ie.size) ++ vs ++ cs'.toList.drop (n * ie.size + vs.length)).take (cs.take (n * ie.size) ++ new).length = cs'.toList.take (n * ie.size) ++ vs := by
                              rw [List.take_left' (by simp; omega)]
                            rw [e2]
                            exact VRs.append (VRs.mono hle1 _ _ hold) (VRs.mono hle1 _ _ hvs))
                          (by intro cs2 e2 fr2 e3; cases e3; rw [over_size]; exact hsig)
                          (by intro cs2 e2 e3; cases e3)
                        refine ⟨_, _, hp1.trans hup, .inl ⟨_, step _ _ (by rw [e1]; exact hfits), ?_⟩⟩
                        simp only [VR]
                        exact ⟨b', c', rfl, by simp, Nat.le_refl _, hin, by simpa using hsg⟩
                      · obtain ⟨vs2, hvs2, hf2⟩ := hf'
                        have hrd := run_loadCellsFrom P w.drew b' 0 cs' e fr hcc' (n * ie.size) 0 #[] (by omega)
                        simp only [Nat.add_zero, List.drop_zero, Array.empty_append] at hrd
                        obtain ⟨cap, cs3, hcap, hcs3, hrun⟩ := append_grows (P := P) (w := w) (ty := ty) (base := some ⟨b', 0, none⟩) (n := n) (C := c') hat hat2 ht ht2 hd2 hi hz hl hf2 (by omega) (old := cs'.toList.take (n * ie.size)) (by simpa [Builtin.firstCells, loadCells] using hrd) b1 b2 hes
                        have hk := post_kill (P := P) (mid := mid) h hgb
                        have hd := Post.drew hk.hr
                        obtain ⟨J', hp, hv⟩ := apd_new (P := P) (mid := mid) hd.hr (e := e) (es := ie.size) (need := n + ns) (cap := cap) (zs := Builtin.zeroCells z.cells (cap - (n + ns))) hvs2 hold (by simp; omega) hcap (hzc _)
                        subst hcs3
                        refine ⟨J', _, (hk.trans hd).trans hp, .inl ⟨_, step _ _ (by rw [e1]; exact hrun), hv⟩⟩
                  · exact True.intro
                · simp only [cond_true]
                  have hfit := Nat.le_of_ble_eq_true hfit
                  split
                  · rename_i A' hw
                    obtain ⟨w', hr, hp⟩ := wr_sim (P := P) (mid := mid) h hw hb hvs
                    have hfits := append_fits (P := P) (w := w) (ty := ty) (base := some ⟨b', o, none⟩) (n := n) (C := c') hat hat2 ht ht2 hd2 hs hl hf (by omega)
                    simp only [add_none] at hfits
                    rw [hr] at hfits
                    refine ⟨J, w', hp, .inl ⟨_, step _ _ (by rw [e1]; exact hfits), ?_⟩⟩
                    simp only [VR]
                    exact ⟨b', c', rfl, hb, hfit, hcc, hsg⟩
                  · exact True.intro
              · exact True.intro
          · exact True.intro
        · exact True.intro
      · exact True.intro
    · trivial
  · trivial
end
end Go.Ae
/- One operation: what the evaluator answers, the model does: calls. -/
namespace Go.Ae
open Go
section
variable {P : Program} {mid : String → Option Nat} {T : Tab} {J : KW} {A : AW} {w : World} {env : List AV} {a : Act}

theorem max2_sim {x y z : AV} {u v : Value} (hx : VR J x u) (hy : VR J y v) (h : max2A x y = some z) : ∃ r, (∀ w, (Builtin.max2 u v).run P w = .ok r w) ∧ VR J z r := by
  unfold max2A at h
  split at h
  · rename_i k x k' y
    simp only [VR] at hx hy
    subst hx hy
    cases hk : (k == k')
    · rw [hk] at h; cases h
    · rw [hk] at h
      simp only [cond_true, Option.some.injEq] at h
      subst h
      refine ⟨_, fun w => rfl, ?_⟩
      simp [VR, Bool.cond_decide]
  · cases h

theorem min2_sim {x y z : AV} {u v : Value} (hx : VR J x u) (hy : VR J y v) (h : min2A x y = some z) : ∃ r, (∀ w, (Builtin.min2 u v).run P w = .ok r w) ∧ VR J z r := by
  unfold min2A at h
  split at h
  · rename_i k x k' y
    simp only [VR] at hx hy
    subst hx hy
    cases hk : (k == k')
    · rw [hk] at h; cases h
    · rw [hk] at h
      simp only [cond_true, Option.some.injEq] at h
      subst h
      refine ⟨_, fun w => rfl, ?_⟩
      simp [VR, Bool.cond_decide]
  · cases h

theorem fold_sim {f : AV → AV → Option AV} {g : Value → Value → Sem Value} (hfg : ∀ {x y z : AV} {u v : Value}, VR J x u → VR J y v → f x y = some z → ∃ r, (∀ w, (g u v).run P w = .ok r w) ∧ VR J z r) :
    ∀ (xs : List AV) (vs : List Value) (x z : AV) (u : Value), VRs J xs vs → VR J x u → foldA f x xs = some z → ∃ r, (∀ w, (vs.foldlM g u).run P w = .ok r w) ∧ VR J z r := by
  intro xs
  induction xs with
  | nil =>
    intro vs x z u hv hx h
    simp only [VRs] at hv; subst hv
    simp only [foldA, Option.some.injEq] at h; subst h
    exact ⟨u, fun w => rfl, hx⟩
  | cons y ys ih =>
    intro vs x z u hv hx h
    simp only [VRs] at hv
    obtain ⟨v, vs, rfl, hy, hys⟩ := hv
    simp only [foldA] at h
    split at h
    · rename_i t ht
      obtain ⟨r, hr, hz⟩ := hfg hx hy ht
      obtain ⟨r2, hr2, hz2⟩ := ih vs t z r hys hz h
      refine ⟨r2, fun w => ?_, hz2⟩
      simp [List.foldlM_cons, hr, hr2]
    · cases h

theorem sim_mx (hE : VRs J env a.tmps.toList) (h : HR P mid J A w) {xs : Array Operand} {ys : List Opd} (hx : opds P.globals.size xs.toList = some ys) (at_ : Array TypeId)
    (ty : TypeId) (pos : String) (d af g) :
    OpOk P mid T J A w (evOp T env A (.mx ys)) ((execOp a.eval ⟨d, .call { callee := .builtin .max, args := xs, argTypes := at_ }, ty, pos, af, g⟩).run P w) := by
  simp only [evOp]
  have h1 := evs_sim hE h hx
  split
  · trivial
  · rename_i x rest hl
    rw [hl] at h1
    refine ok_oV h fun v hv => ?_
    obtain ⟨u, us, hus, h2, h3⟩ : ∃ u us, xs.toList.map a.eval = u :: us ∧ VR J x u ∧ VRs J rest us := by
      simp only [VRs] at h1
      obtain ⟨u, us, e, h2, h3⟩ := h1
      exact ⟨u, us, e, h2, h3⟩
    obtain ⟨r, hr, hz⟩ := fold_sim (P := P) max2_sim _ _ _ _ _ h3 h2 hv
    refine ⟨r, ?_, hz⟩
    have e2 : (Array.map a.eval xs).toList = u :: us := by rw [Array.toList_map]; exact hus
    simp [execOp, resolve, invoke, builtin, Builtin.max_, hus, hr]

theorem sim_mn (hE : VRs J env a.tmps.toList) (h : HR P mid J A w) {xs : Array Operand} {ys : List Opd} (hx : opds P.globals.size xs.toList = some ys) (at_ : Array TypeId)
    (ty : TypeId) (pos : String) (d af g) :
    OpOk P mid T J A w (evOp T env A (.mn ys)) ((execOp a.eval ⟨d, .call { callee := .builtin .min, args := xs, argTypes := at_ }, ty, pos, af, g⟩).run P w) := by
  simp only [evOp]
  have h1 := evs_sim hE h hx
  split
  · trivial
  · rename_i x rest hl
    rw [hl] at h1
    refine ok_oV h fun v hv => ?_
    obtain ⟨u, us, hus, h2, h3⟩ : ∃ u us, xs.toList.map a.eval = u :: us ∧ VR J x u ∧ VRs J rest us := by
      simp only [VRs] at h1
      obtain ⟨u, us, e, h2, h3⟩ := h1
      exact ⟨u, us, e, h2, h3⟩
    obtain ⟨r, hr, hz⟩ := fold_sim (P := P) min2_sim _ _ _ _ _ h3 h2 hv
    refine ⟨r, ?_, hz⟩
    simp [execOp, resolve, invoke, builtin, Builtin.min_, hus, hr]

/-! ### Library functions without a body -/
theorem xt_f64 {fn : Func} (hn : fn.name = "math.Float64bits") (ho : fn.origin = "" ∨ fn.origin = fn.name) : Extern.findNext fn = none ∧ Extern.find fn = some Extern.MathFloatBits.float64bits := by
  have l1 : Extern.allNextRows.lookup "math.Float64bits" = none := by kernel_rfl
  have l2 : Extern.allNextRows.lookup "" = none := by kernel_rfl
  have l3 : Extern.allGenericRows.lookup "math.Float64bits" = none := by kernel_rfl
  have l4 : Extern.allTypedRows.lookup "math.Float64bits" = none := by kernel_rfl
  have l5 : Extern.allRows.lookup "math.Float64bits" = some Extern.MathFloatBits.float64bits := by kernel_rfl
  constructor
  · unfold Extern.findNext
    rcases ho with ho | ho
    · simp [hn, ho, l1, l2]
    · rw [hn] at ho; simp [hn, ho, l1]
  · unfold Extern.find
    simp [hn, l3, l4, l5]

theorem xt_idx {fn : Func} (hn : fn.name = "internal/bytealg.IndexByte" ∨ fn.name = "internal/bytealg.IndexByteString") (ho : fn.origin = "" ∨ fn.origin = fn.name) : Extern.findNext fn = none ∧ Extern.find fn = some Extern.BytealgIndexByte.indexByte := by
  have l2 : Extern.allNextRows.lookup "" = none := by kernel_rfl
  rcases hn with hn | hn
  · have l1 : Extern.allNextRows.lookup "internal/bytealg.IndexByte" = none := by kernel_rfl
    have l3 : Extern.allGenericRows.lookup "internal/bytealg.IndexByte" = none := by kernel_rfl
    have l4 : Extern.allTypedRows.lookup "internal/bytealg.IndexByte" = none := by kernel_rfl
    have l5 : Extern.allRows.lookup "internal/bytealg.IndexByte" = some Extern.BytealgIndexByte.indexByte := by kernel_rfl
    constructor
    · unfold Extern.findNext
      rcases ho with ho | ho
      · simp [hn, ho, l1, l2]
      · rw [hn] at ho; simp [hn, ho, l1]
    · unfold Extern.find
      simp [hn, l3, l4, l5]
  · have l1 : Extern.allNextRows.lookup "internal/bytealg.IndexByteString" = none := by kernel_rfl
    have l3 : Extern.allGenericRows.lookup "internal/bytealg.IndexByteString" = none := by kernel_rfl
    have l4 : Extern.allTypedRows.lookup "internal/bytealg.IndexByteString" = none := by kernel_rfl
    have l5 : Extern.allRows.lookup "internal/bytealg.IndexByteString" = some Extern.BytealgIndexByte.indexByte := by kernel_rfl
    constructor
    · unfold Extern.findNext
      rcases ho with ho | ho
      · simp [hn, ho, l1, l2]
      · rw [hn] at ho; simp [hn, ho, l1]
    · unfold Extern.find
      simp [hn, l3, l4, l5]

theorem callFunc_xt {f : Nat} {fn : Func} {e : Array Value → Sem Value} (hf : P.funcs[f]? = some fn) (hn : (fn.name == "runtime.NumGoroutine") = false) (hb : fn.body = none) (h1 : Extern.findNext fn = none) (h2 : Extern.find fn = some e) (args : Array Value) (w : World) :
    (callFunc f args).run P w = ((e args).run P w).andThen fun v w' => .ok (.value v) w' := by
  have hn' : ¬ fn.name = "runtime.NumGoroutine" := by simpa using hn
  simp [callFunc, hf, hn', hb, h1, h2]

theorem callFunc_enter {f : Nat} {fn : Func} (hf : P.funcs[f]? = some fn) (hn : (fn.name == "runtime.NumGoroutine") = false) (hb : fn.body.isSome = true) (args : Array Value) (w : World) :
    (callFunc f args).run P w = .ok (.enter f args) w := by
  obtain ⟨c, hc⟩ := Option.isSome_iff_exists.1 hb
  have hn' : ¬ fn.name = "runtime.NumGoroutine" := by simpa using hn
  simp [callFunc, hf, hn', hc]

theorem toList_map_eval (xs : Array Operand) : (Array.map a.eval xs).toList = xs.toList.map a.eval := by simp

theorem sim_call (hE : VRs J env a.tmps.toList) (h : HR P mid J A w) {xs : Array Operand} {ys : List Opd} (hx : opds P.globals.size xs.toList = some ys) {f : Nat} {fn : Func} (hf : P.funcs[f]? = some fn) (hn : (fn.name == "runtime.NumGoroutine") = false) (hb : fn.body.isSome = true) (at_ : Array TypeId)
    (ty : TypeId) (pos : String) (d af g) :
    OpOk P mid T J A w (evOp T env A (.call f ys)) ((execOp a.eval ⟨d, .call { callee := .value (.func f), args := xs, argTypes := at_ }, ty, pos, af, g⟩).run P w) := by
  simp only [evOp]
  have h1 := evs_sim hE h hx
  intro F hF
  refine ⟨xs.map a.eval, ?_, by rw [toList_map_eval]; exact h1⟩
  have := callFunc_enter (P := P) hf hn hb (xs.map a.eval) w
  simp [execOp, resolve, Deferred.ofValue, Act.eval, invoke] at this ⊢
  exact this

theorem TOK.enters (hT : TOK P mid T) {f : Nat} {F : IFun} (hF : T.fns.get f = some F) : ∃ fn, P.funcs[f]? = some fn ∧ (fn.name == "runtime.NumGoroutine") = false ∧ fn.body.isSome = true := by
  obtain ⟨fn, h1, h2, h3⟩ := hT.fns f F hF
  refine ⟨fn, h1, h2, ?_⟩
  unfold funC at h3
  cases hb : fn.body with
  | none => rw [hb] at h3; simp at h3
  | some c => rfl

theorem evCall_sim (hT : TOK P mid T) {fv : AV} {v : Value} (hv : VR J fv v) {xs : List AV} {vs : Array Value} (hx : VRs J xs vs.toList) (_argTypes : Array TypeId) (_type : TypeId) :
    OpOk P mid T J A w (evCall T fv xs) ((do let d ← Deferred.ofValue v vs; invoke d.target d.args : Sem Next).run P w) := by
  unfold evCall
  split
  · rename_i f first caps
    simp only [VR] at hv
    obtain ⟨f', fs', cs', rfl, hfr, h1, h2⟩ := hv
    simp only [FR] at hfr
    subst hfr
    intro F hF
    obtain ⟨fn, hf, hn, hb⟩ := hT.enters hF
    refine ⟨fs' ++ vs ++ cs', ?_, by simp only [Array.toList_append]; exact (h1.append hx).append h2⟩
    have := callFunc_enter (P := P) hf hn hb (fs' ++ vs ++ cs') w
    simpa [Deferred.ofValue, invoke] using this
  · rename_i l first caps
    simp only [VR] at hv
    obtain ⟨f', fs', cs', rfl, hfr, h1, h2⟩ := hv
    simp only [FR] at hfr
    obtain ⟨l', rfl, hl⟩ := hfr
    refine ⟨l', fs' ++ vs, hl, by simp only [Array.toList_append]; exact h1.append hx, ?_⟩
    simp [Deferred.ofValue, invoke]
  · trivial

theorem sim_callV (hT : TOK P mid T) (hE : VRs J env a.tmps.toList) (h : HR P mid J A w) {x : Operand} {x' : Opd} (hf : opd P.globals.size x = some x') {xs : Array Operand} {ys : List Opd} (hx : opds P.globals.size xs.toList = some ys) (at_ : Array TypeId)
    (ty : TypeId) (pos : String) (d af g) :
    OpOk P mid T J A w (evOp T env A (.callV x' ys)) ((execOp a.eval ⟨d, .call { callee := .value x, args := xs, argTypes := at_ }, ty, pos, af, g⟩).run P w) := by
  simp only [evOp, execOp, resolve]
  exact evCall_sim hT (ev_sim hE h hf) (by rw [toList_map_eval]; exact evs_sim hE h hx) at_ ty

theorem sim_dfr (hE : VRs J env a.tmps.toList) (h : HR P mid J A w) {x : Operand} {x' : Opd} (hf : opd P.globals.size x = some x') {xs : Array Operand} {ys : List Opd} (hx : opds P.globals.size xs.toList = some ys) (at_ : Array TypeId)
    (ty : TypeId) (pos : String) (d af g) :
    OpOk P mid T J A w (evOp T env A (.dfr x' ys)) ((execOp a.eval ⟨d, .defer { callee := .value x, args := xs, argTypes := at_ }, ty, pos, af, g⟩).run P w) := by
  simp only [evOp]
  have h1 := ev_sim hE h hf
  have h2 := evs_sim hE h hx
  split
  · rename_i f l he
    unfold evCall at he
    split at he
    · rename_i f' first caps hfv
      cases he
      rw [hfv] at h1
      simp only [VR] at h1
      obtain ⟨f'', fs', cs', e1, hfr, h3, h4⟩ := h1
      simp only [FR] at hfr
      subst hfr
      refine ⟨{ target := .fn (.func f) cs', args := fs' ++ xs.map a.eval }, ?_, cs', _, rfl, ?_⟩
      · simp [execOp, resolve, e1, Deferred.ofValue]
      · simp only [Array.toList_append, toList_map_eval]
        exact (h3.append h2).append h4
    · cases he
    · cases he
  · trivial

theorem sim_inv (hT : TOK P mid T) (hE : VRs J env a.tmps.toList) (h : HR P mid J A w) {x : Operand} {x' : Opd} (hf : opd P.globals.size x = some x') {xs : Array Operand} {ys : List Opd} (hx : opds P.globals.size xs.toList = some ys) {name : String} {m : Nat} (hm : mid name = some m) (at_ : Array TypeId)
    (ty : TypeId) (pos : String) (d af g) :
    OpOk P mid T J A w (evOp T env A (.inv m x' ys)) ((execOp a.eval ⟨d, .call { callee := .invoke x name, args := xs, argTypes := at_ }, ty, pos, af, g⟩).run P w) := by
  simp only [evOp]
  have h1 := ev_sim hE h hf
  have h2 := evs_sim hE h hx
  split
  · rename_i t v he
    rw [he] at h1
    simp only [VR] at h1
    obtain ⟨v', e1, hv⟩ := h1
    split
    · rename_i f hmf
      intro F hF
      obtain ⟨i, mm, pr, dd, hi, hfind, hpath, hfunc, hu, hiff, fn, hfn, hb, hn⟩ := hT.meth t name m f hm hmf
      refine ⟨#[v'] ++ xs.map a.eval, ?_, by simp only [Array.toList_append, toList_map_eval]; exact VRs.cons hv h2⟩
      have hmeth : (method (P.types.size + Made.depth) t v' name).run P w = .ok (f, v') w := by
        have e : P.types.size + Made.depth = (P.types.size + (Made.depth - 1)) + 1 := by simp [Made.depth]
        rw [e]
        have hrecv : ∀ wr, (receiverAt t (.val v') pr wr).run P w = .ok v' w := by
          intro wr
          unfold receiverAt
          simp only [Sem.run_bind, und_run hu, Result.andThen_ok]
          cases pr with
          | true =>
            obtain ⟨e, rfl⟩ := hiff.2 rfl
            rfl
          | false =>
            have hne : ∀ e, dd ≠ .pointer e := fun e he => by have := hiff.1 ⟨e, he⟩; cases this
            cases dd <;> first | rfl | exact absurd rfl (hne _)
        simp [method, typeInfo, hi, hfind, hpath, follow, hfunc, hrecv]
      have hc := callFunc_enter (P := P) hfn hn hb (#[v'] ++ xs.map a.eval) w
      have h0 : (#[Value.iface t v'] ++ Array.map a.eval xs)[0]? = some (Value.iface t v') := by simp [Array.getElem?_append]
      have hx0 : (#[Value.iface t v'] ++ Array.map a.eval xs).extract 1 (#[Value.iface t v'] ++ Array.map a.eval xs).size = Array.map a.eval xs := by
        apply Array.toList_inj.1
        simp [List.extract_eq_take_drop]
        rw [List.take_of_length_le (by simp)]
      have hi2 : (invoke (.fn (.method name) #[]) (#[Value.iface t v'] ++ Array.map a.eval xs)).run P w = (callMethod (.iface t v') name (Array.map a.eval xs)).run P w := by
        simp only [invoke]
        rw [h0, hx0]
      have hcm : (callMethod (.iface t v') name (Array.map a.eval xs)).run P w = (callFunc f (#[v'] ++ Array.map a.eval xs)).run P w := by
        simp only [callMethod, Sem.run_bind, run_program, Result.andThen_ok, hmeth]
      simp only [execOp, resolve, Sem.run_bind, Sem.run_pure, Result.andThen_ok, e1]
      rw [hi2, hcm, hc]
    · trivial
  · trivial

theorem sim_nxtS (hE : VRs J env a.tmps.toList) (h : HR P mid J A w) {x : Operand} {x' : Opd} (hf : opd P.globals.size x = some x')
    (ty : TypeId) (pos : String) (d af g) :
    OpOk P mid T J A w (evOp T env A (.nxtS x')) ((execOp a.eval ⟨d, .next x true, ty, pos, af, g⟩).run P w) := by
  simp only [evOp]
  have h1 := ev_sim hE h hf
  split
  · rename_i r he
    rw [he] at h1
    simp only [VR] at h1
    obtain ⟨r', e1, hr⟩ := h1
    split
    · rename_i s p hg
      obtain ⟨b, c, hb, hc, hor⟩ := h.obj r _ hg
      rw [hr] at hb; cases hb
      simp only [OR] at hor
      obtain ⟨t, rfl, hs⟩ := hor
      have hget : (getObj r').run P w = .ok (.stringIter t p) w := by simp [run_getObj', hc]
      have hsz : t.size = s.length := by rw [← hs]; rfl
      split
      · rename_i hd
        have hle : s.length ≤ p := by simpa using hd
        refine ok_val h (v' := .tuple #[.bool false]) ?_ (by simp [VR, VRs])
        simp [execOp, Instr.next, e1, hget, hsz]
        omega
      · rename_i c rest hd
        have hlt : p < s.length := by
          rcases Nat.lt_or_ge p s.length with h' | h'
          · exact h'
          · rw [List.drop_eq_nil_of_le h'] at hd; cases hd
        have hcs : s[p]? = some c := by
          have := congrArg List.head? hd
          simpa [List.head?_drop] using this
        cases hlt2 : decide (c < 128)
        · exact True.intro
        · simp only [cond_true]
          have hc128 : c < 128 := by simpa using hlt2
          have hcb : t.get! p = c := by
            have : t.data.toList[p]? = some c := by rw [hs]; exact hcs
            have h2 : t.data[p]? = some c := by simpa using this
            simp [ByteArray.get!, getElem!_def, h2]
          have hdec : Utf8.decode t p = (c.toNat, 1) := by
            have hn : c.toNat < 0x80 := by
              have := UInt8.lt_iff_toNat_lt.1 hc128
              simpa using this
            simp [Utf8.decode, hcb, hn]
          have hset := post_upd (P := P) (mid := mid) h (i := r) (b := r') (o := .iter s p) (o1 := .iter s (p + 1)) (c1 := .stringIter t (p + 1)) hg rfl hr ⟨t, rfl, hs⟩ (by intro cs e fr h; cases h) (by intro cs e h; cases h)
          refine ⟨J, _, hset, .inl ⟨.tuple #[.bool true, .int .i64 p, .int .i32 c.toNat], ?_, by simp [VR, VRs]⟩⟩
          simp [execOp, Instr.next, e1, hget, hsz, hlt, hdec, run_setObj' hc (by intro cs e fr h; cases h), goInt]
    · trivial
  · trivial

theorem run_loadBytes' (P : Program) (w : World) : ∀ (ns : List Int) (b o : Nat) (acc : ByteArray), (∀ j x, ns[j]? = some x → w.cell? ⟨b, o + j, none⟩ = some (.int .u8 x)) →
    ∃ t : ByteArray, (Extern.Bytes.loadBytes ⟨b, o, none⟩ ns.length acc).run P w = .ok t w ∧ t.data.toList = acc.data.toList ++ ns.map fun n => UInt8.ofNat n.toNat := by
  intro ns
  induction ns with
  | nil => intro b o acc _; exact ⟨acc, rfl, by simp⟩
  | cons n ns ih =>
    intro b o acc h
    have h0 := h 0 n rfl
    obtain ⟨t, ht, hd⟩ := ih b (o + 1) (acc.push n.toNat.toUInt8) fun j x hj => by
      have := h (j + 1) x (by simpa using hj)
      rw [← this]; congr 2; omega
    refine ⟨t, ?_, ?_⟩
    · simp only [List.length_cons, Extern.Bytes.loadBytes, Sem.run_bind, run_load]
      simp only [Nat.add_zero] at h0
      rw [h0]
      simp only [Result.andThen_ok, add_none]
      exact ht
    · rw [hd]
      simp only [ByteArray.push, Array.toList_push, List.append_assoc, List.map_cons]
      rfl

theorem txt_sim (h : HR P mid J A w) {x : AV} {v : Value} (hv : VR J x v) {s : List UInt8} (hs : txtA A x = some s) : ∃ t : ByteArray, (Extern.Bytes.bytesOf v).run P w = .ok t w ∧ t.data.toList = s := by
  unfold txtA at hs
  split at hs
  · simp only [Option.some.injEq] at hs; subst hs
    simp only [VR] at hv
    obtain ⟨t, rfl, ht⟩ := hv
    exact ⟨t, rfl, ht⟩
  · split at hs
    · rename_i cs hc
      rcases content_sim (P := P) h hv hc with ⟨u, _, e1, _, e3⟩ | ⟨c, e1, e3⟩ | ⟨ad, c, e1, e3⟩ | ⟨b, o, n, c, es', b', c', vs, _, he', e1, hJ, hvv, hlen, hl, cs', e', fr, hhp, hsz, hvs⟩
      · rw [e3, bytesOfCells_bytes] at hs
        simp only [Option.some.injEq] at hs; subst hs
        rw [e1]; exact ⟨u, rfl, rfl⟩
      · rw [e3] at hs
        simp only [bytesOfCells, Option.some.injEq] at hs; subst hs
        rw [e1]; exact ⟨.empty, rfl, rfl⟩
      · rw [e3] at hs
        simp only [bytesOfCells, Option.some.injEq] at hs; subst hs
        rw [e1]; exact ⟨.empty, rfl, rfl⟩
      · obtain ⟨ns, hns, rfl⟩ := bytesOfCells_VRs hs hvv
        have hn : ns.length = n := by
          have := hvv.length
          rw [hns] at this; simp at this; omega
        rw [e1]
        obtain ⟨t, ht, hd⟩ := run_loadBytes' P w ns b' o .empty fun j x hj => by
          rw [cell_eq hhp]
          have hj2 : j < ns.length := by
            rcases Nat.lt_or_ge j ns.length with h' | h'
            · exact h'
            · rw [List.getElem?_eq_none h'] at hj; cases hj
          have e5 : vs[j]? = some (.int .u8 x) := by rw [hns, List.getElem?_map, hj]; rfl
          rw [hvs, List.getElem?_take_of_lt (by omega), List.getElem?_drop] at e5
          simpa using e5
        refine ⟨t, ?_, by rw [hd]; rfl⟩
        rw [← hn]; exact ht
    · cases hs

theorem find_congr {α : Type} {p q : α → Bool} : ∀ {l : List α}, (∀ x ∈ l, p x = q x) → l.find? p = l.find? q := by
  intro l
  induction l with
  | nil => intro _; rfl
  | cons x xs ih =>
    intro h
    simp only [List.find?_cons, h x (by simp)]
    rw [ih fun y hy => h y (by simp [hy])]

theorem sim_xt (hE : VRs J env a.tmps.toList) (h : HR P mid J A w) {xs : Array Operand} {ys : List Opd} (hx : opds P.globals.size xs.toList = some ys) {f : Nat} {fn : Func} {q : Xt} (hf : P.funcs[f]? = some fn) (hb : fn.body = none) (hq : xtC fn = some q) (at_ : Array TypeId)
    (ty : TypeId) (pos : String) (d af g) :
    OpOk P mid T J A w (evOp T env A (.xt q ys)) ((execOp a.eval ⟨d, .call { callee := .value (.func f), args := xs, argTypes := at_ }, ty, pos, af, g⟩).run P w) := by
  simp only [evOp]
  have h1 := evs_sim hE h hx
  rw [← toList_map_eval] at h1
  have step : (execOp a.eval ⟨d, .call { callee := .value (.func f), args := xs, argTypes := at_ }, ty, pos, af, g⟩).run P w = (callFunc f (xs.map a.eval)).run P w := by
    simp [execOp, resolve, Deferred.ofValue, Act.eval, invoke]
  rw [step]
  unfold xtC at hq
  split at hq
  · rename_i ho
    have ho : fn.origin = "" ∨ fn.origin = fn.name := by simpa using ho
    split at hq
    · rename_i hn
      cases hq
      have hn : fn.name = "math.Float64bits" := by simpa using hn
      obtain ⟨e1, e2⟩ := xt_f64 hn ho
      rw [callFunc_xt hf (by rw [hn]; decide) hb e1 e2]
      unfold evXt
      split <;> first | exact True.intro | skip
      · rename_i b he hl
        rw [hl] at h1
        simp only [VRs, VR] at h1
        obtain ⟨_, _, e, rfl, rfl⟩ := h1
        refine ok_val h (v' := .int .u64 b) ?_ (by simp [VR])
        rw [show xs.map a.eval = #[.float .f64 b] from Array.toList_inj.1 e]
        rfl
      · rename_i hh _; cases hh
    · split at hq
      · rename_i hn
        cases hq
        have hn : fn.name = "internal/bytealg.IndexByte" ∨ fn.name = "internal/bytealg.IndexByteString" := by simpa using hn
        obtain ⟨e1, e2⟩ := xt_idx hn ho
        rw [callFunc_xt hf (by rcases hn with hn | hn <;> rw [hn] <;> decide) hb e1 e2]
        unfold evXt
        split <;> first | exact True.intro | skip
        · rename_i hh _; cases hh
        · rename_i x c hh hl
          rw [hl] at h1
          simp only [VRs, VR] at h1
          obtain ⟨u, _, e, hu, _, _, rfl, rfl, rfl⟩ := h1
          split
          case h_2 => trivial
          rename_i s hts
          obtain ⟨t, htr, hs⟩ := txt_sim (P := P) h hu hts
          rw [show xs.map a.eval = #[u, .int .u8 c] from Array.toList_inj.1 e]
          have hfind : (List.range t.size).find? (fun i => t[i]! == c.toNat.toUInt8) = (List.range s.length).find? (fun i => s.getD i 0 == UInt8.ofNat c.toNat) := by
            subst hs
            refine find_congr ?_
            intro i hi
            have hi : i < t.size := by simpa using hi
            have : t[i]! = t.data.toList.getD i 0 := by
              have h2 : i < t.data.size := hi
              simp [hi, ByteArray.getElem_eq_getElem_data]
            rw [this]
          refine ok_val h (v' := .int .i64 (match (List.range s.length).find? (fun i => s.getD i 0 == UInt8.ofNat c.toNat) with | some i => (i : Int) | none => -1)) ?_ (by simp only [VR]; generalize (List.range s.length).find? _ = z; cases z <;> rfl)
          show ((do
            let b ← Extern.Bytes.bytesOf u
            let c ← Extern.Bytes.asByte (.int .u8 c)
            match (List.range b.size).find? fun i => b[i]! == c with
            | some i => pure (goInt i)
            | none => pure (goInt (-1)) : Sem Value).run P w).andThen _ = _
          simp only [htr, Extern.Bytes.asByte, Sem.run_bind, Sem.run_pure, Result.andThen_ok]
          rw [hfind]
          cases (List.range s.length).find? (fun i => s.getD i 0 == UInt8.ofNat c.toNat) <;> rfl
      · cases hq
  · cases hq
end
end Go.Ae
/- One operation, of whatever kind. -/
namespace Go.Ae
open Go
section
variable {P : Program} {mid : String → Option Nat} {T : Tab} {J : KW} {A : AW} {w : World} {env : List AV} {a : Act}

theorem new_sim (hE : VRs J env a.tmps.toList) (h : HR P mid J A w) {o : Oper} {i : IOp} (hi : opC P mid o = some i) {ob : AObj} {f : Nat → AV} (he : evNew env i = some (ob, f)) :
    NewOk P mid J w ob f ((execOp a.eval o).run P w) := by
  obtain ⟨d, op, ty, pos, af, g⟩ := o
  cases op with
  | alloc e =>
    simp only [opC, Option.bind_eq_bind, Option.bind_eq_some_iff, Option.some.injEq] at hi
    obtain ⟨z, hz, rfl⟩ := hi
    exact new_alloc h e z hz ty pos d af g he
  | box e x =>
    simp only [opC, Option.bind_eq_bind, Option.bind_eq_some_iff, Option.some.injEq] at hi
    obtain ⟨n, hn, x', hx, rfl⟩ := hi
    exact new_box hE h hx e n ty pos d af g he
  | buildSlice t len parts =>
    simp only [opC] at hi
    split at hi
    · rename_i e ht
      simp only [Option.bind_eq_bind, Option.bind_eq_some_iff] at hi
      obtain ⟨s, hs, hi⟩ := hi
      split at hi
      · cases hi
      · rename_i hbig
        simp only [Option.bind_eq_some_iff] at hi
        obtain ⟨z, hz, hi⟩ := hi
        split at hi
        · cases hi
        · rename_i hzs
          simp only [Option.bind_eq_some_iff, Option.some.injEq] at hi
          obtain ⟨ps, hp, rfl⟩ := hi
          exact new_buildS hE h t e len s parts z ps ht hs hbig hz (by simpa using hzs) hp ty pos d af g he
    · cases hi
  | makeMap t r =>
    cases r with
    | none => simp only [opC, Option.some.injEq] at hi; subst hi; exact new_mkMap h t ty pos d af g he
    | some r => simp only [opC] at hi; cases hi
  | makeSlice t n c =>
    simp only [opC] at hi
    split at hi
    · rename_i e ht
      simp only [Option.bind_eq_bind, Option.bind_eq_some_iff] at hi
      obtain ⟨ie, hie, z, hz, hi⟩ := hi
      split at hi
      · cases hi
      · rename_i hzs
        simp only [Option.bind_eq_some_iff, Option.some.injEq] at hi
        obtain ⟨n', hn, c', hc, rfl⟩ := hi
        exact new_mkS hE h t e ie z hn hc ht hie hz (by simpa using hzs) ty pos d af g he
    · cases hi
  | range t x =>
    simp only [opC] at hi
    split at hi
    · rename_i ht
      simp only [Option.bind_eq_bind, Option.bind_eq_some_iff, Option.some.injEq] at hi
      obtain ⟨x', hx, rfl⟩ := hi
      exact new_rngS hE h hx t ht ty pos d af g he
    · cases hi
  | convert s t x =>
    simp only [opC, convC, Option.bind_eq_bind, Option.bind_eq_some_iff] at hi
    obtain ⟨x', hx, us, hs, ut, ht, hi⟩ := hi
    split at hi
    all_goals (try (simp only [Option.some.injEq] at hi; subst hi; simp [evNew] at he; done))
    · split at hi
      · simp only [Option.some.injEq] at hi; subst hi; simp [evNew] at he
      · cases hi
    · split at hi
      · rename_i e he8
        simp only [Option.some.injEq] at hi; subst hi
        exact new_cvSB hE h hx s t _ hs ht he8 ty pos d af g he
      · cases hi
    · simp only [Option.bind_eq_some_iff] at hi
      obtain ⟨n, hn, hi⟩ := hi
      split at hi
      · cases hi
      · simp only [Option.some.injEq] at hi; subst hi; simp [evNew] at he
    · simp only [Option.bind_eq_some_iff] at hi
      obtain ⟨n, hn, hi⟩ := hi
      split at hi
      · cases hi
      · simp only [Option.some.injEq] at hi; subst hi; simp [evNew] at he
    · split at hi
      · simp only [Option.some.injEq] at hi; subst hi; simp [evNew] at he
      · cases hi
    · cases hi
  | binOp op xt x y yt =>
    exfalso
    simp only [opC, binC, Option.bind_eq_bind, Option.bind_eq_some_iff] at hi
    obtain ⟨x1, hx1, y1, hy1, u, hu, hi⟩ := hi
    clear hx1 hy1 hu
    split at hi <;> (try (simp only [Option.some.injEq] at hi; subst hi; simp [evNew] at he; done)) <;> (try (cases hi; done))
    · split at hi
      · cases hi
      · simp only [Option.bind_eq_some_iff, Option.some.injEq] at hi
        obtain ⟨_, _, rfl⟩ := hi
        simp [evNew] at he
    · split at hi
      · cases hi
      · simp only [Option.bind_eq_some_iff, Option.some.injEq] at hi
        obtain ⟨_, _, rfl⟩ := hi
        simp [evNew] at he
  | call c =>
    exfalso
    simp only [opC, callC, Option.bind_eq_bind, Option.bind_eq_some_iff] at hi
    obtain ⟨args, hargs, hi⟩ := hi
    clear hargs
    split at hi
    · split at hi
      · split at hi
        · split at hi
          · cases hi
          · simp only [Option.some.injEq] at hi; subst hi; simp [evNew] at he
        · simp only [Option.map_eq_some_iff] at hi
          obtain ⟨_, _, rfl⟩ := hi
          simp [evNew] at he
      · cases hi
    · simp only [Option.bind_eq_some_iff, Option.some.injEq] at hi
      obtain ⟨_, _, rfl⟩ := hi
      simp [evNew] at he
    · simp only [Option.bind_eq_some_iff, Option.some.injEq] at hi
      obtain ⟨_, _, _, _, rfl⟩ := hi
      simp [evNew] at he
    · split at hi
      · split at hi <;> (try (cases hi; done)) <;> (simp only [Option.some.injEq] at hi; subst hi; simp [evNew] at he)
      · simp only [Option.some.injEq] at hi; subst hi; simp [evNew] at he
      · split at hi
        · simp only [Option.bind_eq_some_iff] at hi
          obtain ⟨_, _, _, _, hi⟩ := hi
          split at hi
          · simp only [Option.some.injEq] at hi; subst hi; simp [evNew] at he
          · cases hi
        · simp only [Option.bind_eq_some_iff] at hi
          obtain ⟨_, _, _, _, hi⟩ := hi
          split at hi
          · simp only [Option.some.injEq] at hi; subst hi; simp [evNew] at he
          · cases hi
        · cases hi
      · split at hi
        · simp only [Option.bind_eq_some_iff, Option.some.injEq] at hi
          obtain ⟨_, _, rfl⟩ := hi
          simp [evNew] at he
        · cases hi
      · split at hi
        · split at hi
          · simp only [Option.bind_eq_some_iff, Option.some.injEq] at hi
            obtain ⟨_, _, rfl⟩ := hi
            simp [evNew] at he
          · cases hi
        · cases hi
      all_goals (first | (cases hi; done) | (simp only [Option.some.injEq] at hi; subst hi; simp [evNew] at he))
  | makeFunc fn first caps =>
    exfalso
    cases fn <;> simp only [opC, Option.bind_eq_bind, Option.bind_eq_some_iff, Option.some.injEq] at hi <;> (try (cases hi; done))
    obtain ⟨_, _, _, _, rfl⟩ := hi
    simp [evNew] at he
  | next x b =>
    exfalso
    cases b <;> simp only [opC, Option.bind_eq_bind, Option.bind_eq_some_iff, Option.some.injEq] at hi <;> (try (cases hi; done))
    obtain ⟨_, _, rfl⟩ := hi
    simp [evNew] at he
  | slice t x lo hi' mx =>
    exfalso
    simp only [opC, Option.bind_eq_bind, Option.bind_eq_some_iff] at hi
    obtain ⟨_, _, _, _, _, _, _, _, hi⟩ := hi
    split at hi
    · simp only [Option.some.injEq] at hi; subst hi; simp [evNew] at he
    · split at hi
      · cases hi
      · simp only [Option.bind_eq_some_iff, Option.some.injEq] at hi
        obtain ⟨_, _, rfl⟩ := hi
        simp [evNew] at he
    · simp only [Option.bind_eq_some_iff, Option.some.injEq] at hi
      obtain ⟨_, _, rfl⟩ := hi
      simp [evNew] at he
    · cases hi
  | defer c =>
    exfalso
    simp only [opC] at hi
    split at hi
    · simp only [Option.bind_eq_bind, Option.bind_eq_some_iff, Option.some.injEq] at hi
      obtain ⟨_, _, _, _, rfl⟩ := hi
      simp [evNew] at he
    · cases hi
  | _ =>
    exfalso
    cases i <;> simp only [evNew] at he <;> (try (cases he; done)) <;> simp only [opC, Option.bind_eq_bind] at hi <;> (try (simp [Option.bind_eq_some_iff] at hi; done)) <;>
      (repeat' (split at hi)) <;> (try (simp [Option.bind_eq_some_iff] at hi; done)) <;> skip
end
end Go.Ae
/- One operation, of whatever kind. -/
namespace Go.Ae
open Go
section
variable {P : Program} {mid : String → Option Nat} {T : Tab} {J : KW} {A : AW} {w : World} {env : List AV} {a : Act}

theorem new_ok (h : HR P mid J A w) {o : AObj} {f : Nat → AV} {res : Result Next} (hk : NewOk P mid J w o f res) : OpOk P mid T J A w (.val (f A.nx) (A.new o)) res := by
  obtain ⟨c, v', dr, e, hro, hi⟩ := hk
  have hn : J.ι A.nx = none := by
    cases hj : J.ι A.nx with
    | none => rfl
    | some b => have := (h.dom _ _ hj).1; omega
  obtain ⟨h1, h2⟩ := hi A.nx hn
  exact ⟨_, _, Post.drawn (w'' := { w with heap := w.heap.push c, drawn := dr }) (post_new h hro h1).1 rfl rfl rfl rfl, .inl ⟨v', e, h2⟩⟩

theorem new_op (hE : VRs J env a.tmps.toList) (h : HR P mid J A w) {o : Oper} {i : IOp} (hi : opC P mid o = some i) (he : evOp T env A i = match evNew env i with | some (o, f) => .val (f A.nx) (A.new o) | none => .no) :
    OpOk P mid T J A w (evOp T env A i) ((execOp a.eval o).run P w) := by
  rw [he]
  cases hn : evNew env i with
  | none => exact True.intro
  | some p => obtain ⟨ob, f⟩ := p; exact new_ok h (new_sim hE h hi hn)

theorem opds_cons {ng : Nat} {x : Operand} {xs : List Operand} {ys : List Opd} (h : opds ng (x :: xs) = some ys) : ∃ y zs, ys = y :: zs ∧ opd ng x = some y ∧ opds ng xs = some zs := by
  simp only [opds] at h
  split at h
  · rename_i y hy
    split at h
    · rename_i zs hz
      simp only [Option.some.injEq] at h
      exact ⟨y, zs, h.symm, hy, hz⟩
    · cases h
  · cases h

theorem opds_nil {ng : Nat} {ys : List Opd} (h : opds ng [] = some ys) : ys = [] := by
  simp only [opds, Option.some.injEq] at h; exact h.symm

theorem opds_one {ng : Nat} {args : Array Operand} {x' : Opd} (h : opds ng args.toList = some [x']) : ∃ x, args = #[x] ∧ opd ng x = some x' := by
  obtain ⟨l⟩ := args
  cases l with
  | nil => cases opds_nil h
  | cons x xs =>
    obtain ⟨y, zs, e, hy, hz⟩ := opds_cons h
    cases e
    cases xs with
    | nil => exact ⟨x, rfl, hy⟩
    | cons y ys => obtain ⟨_, _, e, _⟩ := opds_cons hz; cases e

theorem opds_two {ng : Nat} {args : Array Operand} {x' y' : Opd} (h : opds ng args.toList = some [x', y']) : ∃ x y, args = #[x, y] ∧ opd ng x = some x' ∧ opd ng y = some y' := by
  obtain ⟨l⟩ := args
  cases l with
  | nil => cases opds_nil h
  | cons x xs =>
    obtain ⟨_, zs, e, hy, hz⟩ := opds_cons h
    cases e
    cases xs with
    | nil => cases opds_nil hz
    | cons y ys =>
      obtain ⟨_, us, e, hy2, hu⟩ := opds_cons hz
      cases e
      cases ys with
      | nil => exact ⟨x, y, rfl, hy, hy2⟩
      | cons z zs => obtain ⟨_, _, e, _⟩ := opds_cons hu; cases e

theorem bind_und {at_ : Array TypeId} {j : Nat} {u : TypeDesc} (h : (at_[j]?).bind P.underlying = some u) : ∃ t, at_[j]? = some t ∧ P.underlying t = some u := by
  simpa [Option.bind_eq_some_iff] using h

theorem op_sim (hT : TOK P mid T) (hE : VRs J env a.tmps.toList) (h : HR P mid J A w) {o : Oper} {i : IOp} (hi : opC P mid o = some i) :
    OpOk P mid T J A w (evOp T env A i) ((execOp a.eval o).run P w) := by
  have hi0 := hi
  obtain ⟨d, op, ty, pos, af, g⟩ := o
  cases op with
  | move x =>
    simp only [opC, Option.map_eq_some_iff] at hi
    obtain ⟨x', hx, rfl⟩ := hi
    exact sim_move hE h hx ty pos d af g
  | assign x =>
    simp only [opC, Option.map_eq_some_iff] at hi
    obtain ⟨x', hx, rfl⟩ := hi
    exact sim_move hE h hx ty pos d af g
  | pick c x y =>
    simp only [opC, Option.bind_eq_bind, Option.bind_eq_some_iff, Option.some.injEq] at hi
    obtain ⟨c', hc, x', hx, y', hy, rfl⟩ := hi
    exact sim_pick hE h hc hx hy ty pos d af g
  | alloc e =>
    simp only [opC, Option.bind_eq_bind, Option.bind_eq_some_iff, Option.some.injEq] at hi
    obtain ⟨z, hz, rfl⟩ := hi
    exact new_op hE h hi0 rfl
  | box e x =>
    simp only [opC, Option.bind_eq_bind, Option.bind_eq_some_iff, Option.some.injEq] at hi
    obtain ⟨n, hn, x', hx, rfl⟩ := hi
    exact new_op hE h hi0 rfl
  | build t parts =>
    simp only [opC, Option.bind_eq_bind, Option.bind_eq_some_iff] at hi
    obtain ⟨z, hz, hi⟩ := hi
    split at hi
    · rename_i fs hu
      simp only [Option.bind_eq_some_iff, Option.some.injEq] at hi
      obtain ⟨pl, hpl, ps, hps, rfl⟩ := hi
      exact sim_build hE h t parts z ps hz (.inl ⟨fs, pl, hu, hpl, hps⟩) ty pos d af g
    · rename_i n e hu
      simp only [Option.bind_eq_some_iff, Option.some.injEq] at hi
      obtain ⟨s, hs, ps, hps, rfl⟩ := hi
      exact sim_build hE h t parts z ps hz (.inr ⟨n, e, s, hu, hs, hps⟩) ty pos d af g
    · cases hi
  | buildSlice t len parts =>
    simp only [opC] at hi
    split at hi
    · rename_i e ht
      simp only [Option.bind_eq_bind, Option.bind_eq_some_iff] at hi
      obtain ⟨s, hs, hi⟩ := hi
      split at hi
      · cases hi
      · simp only [Option.bind_eq_some_iff] at hi
        obtain ⟨z, hz, hi⟩ := hi
        split at hi
        · cases hi
        · simp only [Option.bind_eq_some_iff, Option.some.injEq] at hi
          obtain ⟨ps, hp, rfl⟩ := hi
          exact new_op hE h hi0 rfl
    · cases hi
  | load t x =>
    simp only [opC, Option.bind_eq_bind, Option.bind_eq_some_iff] at hi
    obtain ⟨x', hx, g', hg, hi⟩ := hi
    cases g' with
    | true =>
      simp only [if_true, Option.bind_eq_some_iff, Option.some.injEq] at hi
      obtain ⟨n, hn, rfl⟩ := hi
      exact sim_ldN hE h hx t n hg hn ty pos d af g
    | false =>
      simp only [Bool.false_eq_true, if_false, Option.some.injEq] at hi
      subst hi
      exact sim_ld hE h hx t hg ty pos d af g
  | store t x v =>
    simp only [opC, Option.bind_eq_bind, Option.bind_eq_some_iff, Option.some.injEq] at hi
    obtain ⟨n, hn, x', hx, v', hv, rfl⟩ := hi
    exact sim_st hE h hx hv t n hn ty pos d af g
  | nilCheck x =>
    simp only [opC, Option.bind_eq_bind, Option.bind_eq_some_iff, Option.some.injEq] at hi
    obtain ⟨x', hx, rfl⟩ := hi
    exact sim_nilc hE h hx ty pos d af g
  | binOp op xt x y yt =>
    simp only [opC, binC, Option.bind_eq_bind, Option.bind_eq_some_iff] at hi
    obtain ⟨x', hx, y', hy, u, hu, hi⟩ := hi
    split at hi
    · simp only [Option.some.injEq] at hi; subst hi
      exact sim_eqB hE h hx hy false xt yt hu ty pos d af g
    · simp only [Option.some.injEq] at hi; subst hi
      exact sim_eqB hE h hx hy true xt yt hu ty pos d af g
    · simp only [Option.some.injEq] at hi; subst hi; exact sim_bin hE h hx hy _ xt yt ty pos d af g
    · simp only [Option.some.injEq] at hi; subst hi; exact sim_bin hE h hx hy _ xt yt ty pos d af g
    · simp only [Option.some.injEq] at hi; subst hi; exact sim_bin hE h hx hy _ xt yt ty pos d af g
    · simp only [Option.some.injEq] at hi; subst hi; exact sim_bin hE h hx hy _ xt yt ty pos d af g
    · simp only [Option.some.injEq] at hi; subst hi; exact sim_bin hE h hx hy _ xt yt ty pos d af g
    · simp only [Option.some.injEq] at hi; subst hi; exact sim_bin hE h hx hy _ xt yt ty pos d af g
    · simp only [Option.some.injEq] at hi; subst hi; exact sim_eqP hE h hx hy false xt yt 0 _ hu rfl ty pos d af g
    · simp only [Option.some.injEq] at hi; subst hi; exact sim_eqP hE h hx hy true xt yt 0 _ hu rfl ty pos d af g
    · simp only [Option.some.injEq] at hi; subst hi; exact sim_eqP hE h hx hy false xt yt 1 _ hu rfl ty pos d af g
    · simp only [Option.some.injEq] at hi; subst hi; exact sim_eqP hE h hx hy true xt yt 1 _ hu rfl ty pos d af g
    · simp only [Option.some.injEq] at hi; subst hi; exact sim_eqP hE h hx hy false xt yt 2 _ hu rfl ty pos d af g
    · simp only [Option.some.injEq] at hi; subst hi; exact sim_eqP hE h hx hy true xt yt 2 _ hu rfl ty pos d af g
    · simp only [Option.some.injEq] at hi; subst hi; exact sim_eqP hE h hx hy false xt yt 3 _ hu rfl ty pos d af g
    · simp only [Option.some.injEq] at hi; subst hi; exact sim_eqP hE h hx hy true xt yt 3 _ hu rfl ty pos d af g
    · split at hi
      · cases hi
      · rename_i hg
        simp only [Option.bind_eq_some_iff, Option.some.injEq] at hi
        obtain ⟨ks, hks, rfl⟩ := hi
        exact sim_eqA hE h hx hy false xt yt ks _ hu (by simpa using hg) hks ty pos d af g
    · split at hi
      · cases hi
      · rename_i hg
        simp only [Option.bind_eq_some_iff, Option.some.injEq] at hi
        obtain ⟨ks, hks, rfl⟩ := hi
        exact sim_eqA hE h hx hy true xt yt ks _ hu (by simpa using hg) hks ty pos d af g
    · cases hi
    · cases hi
    · simp only [Option.some.injEq] at hi; subst hi; exact sim_bin hE h hx hy _ xt yt ty pos d af g
    · simp only [Option.some.injEq] at hi; subst hi; exact sim_bin hE h hx hy _ xt yt ty pos d af g
    · simp only [Option.some.injEq] at hi; subst hi; exact sim_bin hE h hx hy _ xt yt ty pos d af g
    · cases hi
  | unOp op xt x =>
    simp only [opC, Option.bind_eq_bind, Option.bind_eq_some_iff, Option.some.injEq] at hi
    obtain ⟨x', hx, rfl⟩ := hi
    exact sim_un hE h hx op xt ty pos d af g
  | convert s t x =>
    simp only [opC, convC, Option.bind_eq_bind, Option.bind_eq_some_iff] at hi
    obtain ⟨x', hx, us, hs, ut, ht, hi⟩ := hi
    split at hi
    · simp only [Option.some.injEq] at hi; subst hi; exact sim_cvI hE h hx _ _ s t hs ht ty pos d af g
    · simp only [Option.some.injEq] at hi; subst hi; exact sim_cvF hE h hx _ _ s t hs ht ty pos d af g
    · simp only [Option.some.injEq] at hi; subst hi; exact sim_cvIS hE h hx s t hs ht ty pos d af g
    · split at hi
      · rename_i he
        simp only [Option.some.injEq] at hi; subst hi; exact sim_cvBS hE h hx s t _ hs he ht ty pos d af g
      · cases hi
    · split at hi
      · simp only [Option.some.injEq] at hi; subst hi; exact new_op hE h hi0 rfl
      · cases hi
    · simp only [Option.bind_eq_some_iff] at hi
      obtain ⟨n, hn, hi⟩ := hi
      split at hi
      · cases hi
      · simp only [Option.some.injEq] at hi; subst hi; exact True.intro
    · simp only [Option.bind_eq_some_iff] at hi
      obtain ⟨n, hn, hi⟩ := hi
      split at hi
      · cases hi
      · simp only [Option.some.injEq] at hi; subst hi; exact True.intro
    · split at hi
      · rename_i hst he8
        have hst : s = t := by simpa using hst
        subst hst
        simp only [Option.some.injEq] at hi; subst hi; exact sim_cvSl hE h hx s _ ht he8 ty pos d af g
      · cases hi
    · cases hi
  | sliceToArrayPointer t x =>
    simp only [opC] at hi
    split at hi
    · rename_i n e ht
      simp only [Option.bind_eq_bind, Option.bind_eq_some_iff, Option.some.injEq] at hi
      obtain ⟨x', hx, rfl⟩ := hi
      exact sim_s2a hE h hx t e n ht ty pos d af g
    · cases hi
  | makeInterface t x =>
    simp only [opC] at hi
    split at hi
    · cases hi
    · rename_i dd hn ht
      simp only [Option.bind_eq_bind, Option.bind_eq_some_iff, Option.some.injEq] at hi
      obtain ⟨x', hx, rfl⟩ := hi
      exact sim_mkI hE h hx t dd ht (fun ms e => hn ms e) ty pos d af g
    · cases hi
  | makeFunc fn first caps =>
    cases fn <;> simp only [opC, Option.bind_eq_bind, Option.bind_eq_some_iff, Option.some.injEq] at hi <;> (try (cases hi; done))
    obtain ⟨x', hx, y', hy, rfl⟩ := hi
    exact sim_mkF hE h hx hy _ (by simp) ty pos d af g
  | makeMap t r =>
    cases r with
    | none => simp only [opC, Option.some.injEq] at hi; subst hi; exact new_op hE h hi0 rfl
    | some r => simp only [opC] at hi; cases hi
  | makeSlice t n c =>
    simp only [opC] at hi
    split at hi
    · rename_i e ht
      simp only [Option.bind_eq_bind, Option.bind_eq_some_iff] at hi
      obtain ⟨ie, hie, z, hz, hi⟩ := hi
      split at hi
      · cases hi
      · simp only [Option.bind_eq_some_iff, Option.some.injEq] at hi
        obtain ⟨n', hn, c', hc, rfl⟩ := hi
        exact new_op hE h hi0 rfl
    · cases hi
  | slice t x lo hi' mx =>
    simp only [opC, Option.bind_eq_bind, Option.bind_eq_some_iff] at hi
    obtain ⟨x', hx, lo', hlo, hi'', hhi, mx', hmx, hi⟩ := hi
    have hnone : mx' = none → mx = none := by
      intro e; subst e
      cases mx with
      | none => rfl
      | some m => simp [opdO] at hmx
    split at hi
    · rename_i ht
      obtain rfl := hnone rfl
      simp only [Option.some.injEq] at hi; subst hi
      exact sim_slStr hE h hx hlo hhi t ht ty pos d af g
    · rename_i e ht
      split at hi
      · cases hi
      · rename_i hmh
        simp only [Option.bind_eq_some_iff, Option.some.injEq] at hi
        obtain ⟨es, hes, rfl⟩ := hi
        refine sim_slSl hE h hx hlo hhi hmx ?_ t e es ht hes ty pos d af g
        cases mx with
        | none => exact .inl rfl
        | some m =>
          right
          cases hi' with
          | some q => rfl
          | none =>
            simp only [opdO, Option.some.injEq] at hhi
            subst hhi
            simp only [opdO, Option.map_eq_some_iff] at hmx
            obtain ⟨q, hq, rfl⟩ := hmx
            simp at hmh
    · rename_i n e ht
      obtain rfl := hnone rfl
      simp only [Option.bind_eq_some_iff, Option.some.injEq] at hi
      obtain ⟨es, hes, rfl⟩ := hi
      exact sim_slArr hE h hx hlo hhi t e n es ht hes ty pos d af g
    · cases hi
  | fieldAddr s x f =>
    simp only [opC] at hi
    split at hi
    · rename_i fs hs
      simp only [Option.bind_eq_bind, Option.bind_eq_some_iff] at hi
      obtain ⟨fd, hf, n, hn, hi⟩ := hi
      split at hi
      · cases hi
      · rename_i hn0
        simp only [Option.bind_eq_some_iff, Option.some.injEq] at hi
        obtain ⟨x', hx, rfl⟩ := hi
        exact sim_off hE h hx s f fs fd n hs hf hn (by simpa using hn0) ty pos d af g
    · cases hi
  | field t x f =>
    simp only [opC] at hi
    split at hi
    · rename_i fs hs
      simp only [Option.bind_eq_bind, Option.bind_eq_some_iff] at hi
      obtain ⟨fd, hf, g', hg, hi⟩ := hi
      cases g' with
      | true =>
        simp only [if_true, Option.bind_eq_some_iff, Option.some.injEq] at hi
        obtain ⟨n, hn, x', hx, rfl⟩ := hi
        exact sim_fldN hE h hx t f fs fd n hs hf hg hn ty pos d af g
      | false =>
        simp only [Bool.false_eq_true, if_false, Option.bind_eq_some_iff, Option.some.injEq] at hi
        obtain ⟨x', hx, rfl⟩ := hi
        exact sim_fld hE h hx t f fs fd hs hf hg ty pos d af g
    · cases hi
  | indexAddr t x ix =>
    simp only [opC] at hi
    split at hi
    · rename_i e ht
      simp only [Option.bind_eq_bind, Option.bind_eq_some_iff, Option.some.injEq] at hi
      obtain ⟨es, hes, x', hx, i', hi', rfl⟩ := hi
      exact sim_ixS hE h hx hi' t e es ht hes ty pos d af g
    · rename_i n e ht
      simp only [Option.bind_eq_bind, Option.bind_eq_some_iff, Option.some.injEq] at hi
      obtain ⟨es, hes, x', hx, i', hi', rfl⟩ := hi
      exact sim_ixA hE h hx hi' t e n es ht hes ty pos d af g
    · cases hi
  | index t x ix =>
    simp only [opC] at hi
    split at hi
    · rename_i n e ht
      simp only [Option.bind_eq_bind, Option.bind_eq_some_iff, Option.some.injEq] at hi
      obtain ⟨es, hes, g', hg, x', hx, i', hi', rfl⟩ := hi
      exact sim_iaA hE h hx hi' t e n es g' ht hes hg ty pos d af g
    · rename_i ht
      simp only [Option.bind_eq_bind, Option.bind_eq_some_iff, Option.some.injEq] at hi
      obtain ⟨x', hx, i', hi', rfl⟩ := hi
      exact sim_ixStr hE h hx hi' t ht ty pos d af g
    · cases hi
  | lookup t m k ok =>
    simp only [opC] at hi
    split at hi
    · rename_i kt e ht
      split at hi
      · rename_i u hu
        simp only [Option.bind_eq_bind, Option.bind_eq_some_iff, Option.some.injEq] at hi
        obtain ⟨kk, hk, z, hz, m', hm, k', hk', rfl⟩ := hi
        exact sim_lk hE h hm hk' t kt e u kk z ok ht hu hk hz ty pos d af g
      · cases hi
    · cases hi
  | mapUpdate t m k v =>
    simp only [opC] at hi
    split at hi
    · rename_i kt e ht
      split at hi
      · rename_i u hu
        simp only [Option.bind_eq_bind, Option.bind_eq_some_iff, Option.some.injEq] at hi
        obtain ⟨kk, hk, m', hm, k', hk', v', hv, rfl⟩ := hi
        exact sim_mup hE h hm hk' hv t kt e u kk ht hu hk _ (.inl rfl)
      · cases hi
    · cases hi
  | insert t m k v =>
    simp only [opC] at hi
    split at hi
    · rename_i kt e ht
      split at hi
      · rename_i u hu
        simp only [Option.bind_eq_bind, Option.bind_eq_some_iff, Option.some.injEq] at hi
        obtain ⟨kk, hk, m', hm, k', hk', v', hv, rfl⟩ := hi
        exact sim_mup hE h hm hk' hv t kt e u kk ht hu hk _ (.inr rfl)
      · cases hi
    · cases hi
  | range t x =>
    simp only [opC] at hi
    split at hi
    · simp only [Option.bind_eq_bind, Option.bind_eq_some_iff, Option.some.injEq] at hi
      obtain ⟨x', hx, rfl⟩ := hi
      exact new_op hE h hi0 rfl
    · cases hi
  | next x b =>
    cases b <;> simp only [opC, Option.bind_eq_bind, Option.bind_eq_some_iff, Option.some.injEq] at hi <;> (try (cases hi; done))
    obtain ⟨x', hx, rfl⟩ := hi
    exact sim_nxtS hE h hx ty pos d af g
  | typeAssert x xt t ok =>
    simp only [opC] at hi
    split at hi
    · cases hi
    · rename_i dd hn ht
      simp only [Option.bind_eq_bind, Option.bind_eq_some_iff, Option.some.injEq] at hi
      obtain ⟨z, hz, x', hx, rfl⟩ := hi
      exact sim_ta hE h hx t xt dd z ok ht (fun ms e => hn ms e) hz ty pos d af g
    · cases hi
  | extract x ix =>
    simp only [opC, Option.bind_eq_bind, Option.bind_eq_some_iff, Option.some.injEq] at hi
    obtain ⟨x', hx, rfl⟩ := hi
    exact sim_ext hE h hx ix ty pos d af g
  | panic x =>
    simp only [opC, Option.bind_eq_bind, Option.bind_eq_some_iff, Option.some.injEq] at hi
    obtain ⟨x', hx, rfl⟩ := hi
    exact True.intro
  | defer c =>
    obtain ⟨callee, args, at_⟩ := c
    simp only [opC] at hi
    split at hi
    · simp only [Option.bind_eq_bind, Option.bind_eq_some_iff, Option.some.injEq] at hi
      obtain ⟨x', hx, ys, hys, rfl⟩ := hi
      exact sim_dfr hE h hx hys at_ ty pos d af g
    · cases hi
  | call c =>
    obtain ⟨callee, args, at_⟩ := c
    simp only [opC, callC, Option.bind_eq_bind, Option.bind_eq_some_iff] at hi
    obtain ⟨ys, hys, hi⟩ := hi
    split at hi
    · rename_i f
      split at hi
      · rename_i fn hf
        split at hi
        · rename_i hb
          split at hi
          · cases hi
          · rename_i hn
            simp only [Option.some.injEq] at hi; subst hi
            exact sim_call hE h hys hf (by simpa using hn) hb at_ ty pos d af g
        · rename_i hb
          simp only [Option.map_eq_some_iff] at hi
          obtain ⟨q, hq, rfl⟩ := hi
          exact sim_xt hE h hys hf (by simpa using hb) hq at_ ty pos d af g
      · cases hi
    · rename_i x _
      simp only [Option.bind_eq_some_iff, Option.some.injEq] at hi
      obtain ⟨x', hx, rfl⟩ := hi
      exact sim_callV hT hE h hx hys at_ ty pos d af g
    · rename_i r m
      simp only [Option.bind_eq_some_iff, Option.some.injEq] at hi
      obtain ⟨m', hm, x', hx, rfl⟩ := hi
      exact sim_inv hT hE h hx hys hm at_ ty pos d af g
    · split at hi
      · rename_i x' 
        obtain ⟨x, rfl, hx⟩ := opds_one hys
        split at hi
        · simp only [Option.some.injEq] at hi; subst hi; exact True.intro
        · rename_i hu
          obtain ⟨t, hat, ht⟩ := bind_und hu
          simp only [Option.some.injEq] at hi; subst hi; exact sim_len hE h hx at_ t _ hat ht 0 (.inl ⟨rfl, rfl⟩) ty pos d af g
        · rename_i hu
          obtain ⟨t, hat, ht⟩ := bind_und hu
          simp only [Option.some.injEq] at hi; subst hi; exact sim_len hE h hx at_ t _ hat ht 1 (.inr (.inl ⟨rfl, _, rfl⟩)) ty pos d af g
        · rename_i hu
          obtain ⟨t, hat, ht⟩ := bind_und hu
          simp only [Option.some.injEq] at hi; subst hi; exact sim_len hE h hx at_ t _ hat ht 2 (.inr (.inr ⟨rfl, _, _, rfl⟩)) ty pos d af g
        · cases hi
      · simp only [Option.some.injEq] at hi; subst hi; exact True.intro
      · obtain ⟨x, y, rfl, hx, hy⟩ := opds_two hys
        split at hi
        · rename_i e e2 hu hu2
          obtain ⟨t, hat, ht⟩ := bind_und hu
          obtain ⟨t2, hat2, ht2⟩ := bind_und hu2
          simp only [Option.bind_eq_some_iff] at hi
          obtain ⟨ie, hie, z, hz, hi⟩ := hi
          split at hi
          · rename_i hzs
            simp only [Option.some.injEq] at hi; subst hi
            exact sim_apd hE h hx hy at_ t t2 e _ ie z hat hat2 ht ht2 (.inl ⟨_, rfl⟩) hie hz (by simpa using hzs) ty pos d af g
          · cases hi
        · rename_i e hu hu2
          obtain ⟨t, hat, ht⟩ := bind_und hu
          obtain ⟨t2, hat2, ht2⟩ := bind_und hu2
          simp only [Option.bind_eq_some_iff] at hi
          obtain ⟨ie, hie, z, hz, hi⟩ := hi
          split at hi
          · rename_i hzs
            simp only [Option.some.injEq] at hi; subst hi
            exact sim_apd hE h hx hy at_ t t2 e _ ie z hat hat2 ht ht2 (.inr rfl) hie hz (by simpa using hzs) ty pos d af g
          · cases hi
        · cases hi
      · obtain ⟨x, y, rfl, hx, hy⟩ := opds_two hys
        split at hi
        · rename_i e hu
          obtain ⟨t, hat, ht⟩ := bind_und hu
          simp only [Option.bind_eq_some_iff, Option.some.injEq] at hi
          obtain ⟨es, hes, rfl⟩ := hi
          exact sim_cpy hE h hx hy at_ t e es hat ht hes ty pos d af g
        · cases hi
      · obtain ⟨x, y, rfl, hx, hy⟩ := opds_two hys
        split at hi
        · rename_i kt e hu
          obtain ⟨t, hat, ht⟩ := bind_und hu
          split at hi
          · rename_i u hu2
            simp only [Option.bind_eq_some_iff, Option.some.injEq] at hi
            obtain ⟨kk, hk, rfl⟩ := hi
            exact sim_del hE h hx hy at_ t kt e u kk hat ht hu2 hk ty pos d af g
          · cases hi
        · cases hi
      · simp only [Option.some.injEq] at hi; subst hi; exact sim_mx hE h hys at_ ty pos d af g
      · simp only [Option.some.injEq] at hi; subst hi; exact sim_mn hE h hys at_ ty pos d af g
      · simp only [Option.some.injEq] at hi; subst hi; exact True.intro
      · simp only [Option.some.injEq] at hi; subst hi; exact True.intro
      · cases hi
  | _ => simp only [opC] at hi; cases hi
end
end Go.Ae
/- Code: what the evaluator does, the model does. Single operations, rows of operations. -/
namespace Go.Ae
open Go

def DRs (J : KW) : List ADef → List Deferred → Prop
  | [], ds => ds = []
  | x :: xs, ds => ∃ d rest, ds = d :: rest ∧ DR J x d ∧ DRs J xs rest

theorem DR.mono {J J' : KW} (h : KW.le J J') {x : ADef} {d : Deferred} (hd : DR J x d) : DR J' x d := by
  cases x with
  | call f args =>
    obtain ⟨caps, args', e, hv⟩ := hd
    exact ⟨caps, args', e, VRs.mono h _ _ hv⟩
  | coll r =>
    obtain ⟨r', e, hr⟩ := hd
    exact ⟨r', e, (h _ _ hr).1⟩

theorem DRs.mono {J J' : KW} (h : KW.le J J') : ∀ {xs : List ADef} {ds : List Deferred}, DRs J xs ds → DRs J' xs ds := by
  intro xs
  induction xs with
  | nil => intro ds hd; simpa only [DRs] using hd
  | cons x xs ih =>
    intro ds hd
    simp only [DRs] at hd ⊢
    obtain ⟨d, rest, e, h1, h2⟩ := hd
    exact ⟨d, rest, e, h1.mono h, ih h2⟩

structure AR (J : KW) (s : ASt) (a : Act) : Prop where
  env : VRs J s.env a.tmps.toList
  dfs : DRs J s.dfs a.defers

theorem AR.mono {J J' : KW} (h : KW.le J J') {s : ASt} {a : Act} (ha : AR J s a) : AR J' s a := ⟨VRs.mono h _ _ ha.env, ha.dfs.mono h⟩

def RnR (J : KW) (rn ro : Option Nat) : Prop :=
  match rn with
  | none => ro = none
  | some l => ∃ l', ro = some l' ∧ J.ι l = some l'

theorem RnR.mono {J J' : KW} (h : KW.le J J') {rn ro : Option Nat} (hr : RnR J rn ro) : RnR J' rn ro := by
  cases rn with
  | none => exact hr
  | some l => obtain ⟨l', e, hl⟩ := hr; exact ⟨l', e, (h _ _ hl).1⟩

/-- a call that returns -/
def Returns (P : Program) (f : Nat) (args : Array Value) (w w' : World) (v : Value) (kd : CallKind) (cs : List Frame) : Prop :=
  ∃ tmps todo fn, P.funcs[f]? = some fn ∧ (results fn tmps).run P w' = .ok v w' ∧
    Steps P (lone (Frame.enter P f args kd) cs w) (lone { fn := f, tmps, todo, defers := [], mode := .returning, kind := kd } cs w')

/-- a round that ends -/
def Rounds (P : Program) (l : Nat) (args : Array Value) (w w' : World) (v : Value) (c : Frame) (cs : List Frame) : Prop :=
  ∃ fn tmps assign body, (Instr.yield l args).run P w = .ok (.round l fn tmps assign body) w ∧
    Steps P (lone (Frame.round l fn tmps assign body .normal) (c :: cs) w) (lone (c.finish v) cs w')

section
variable (P : Program) (mid : String → Option Nat) (T : Tab)

structure KOk (K : Kont) : Prop where
  fn : ∀ f args A r, K.call f args A = some r → ∃ F, T.fns.get f = some F
  call : ∀ f args A v A', K.call f args A = some (v, A') → ∀ J w args', HR P mid J A w → VRs J args args'.toList → ∀ kd cs, (kd = CallKind.normal ∨ kd = .deferred) →
    ∃ J' w' v', Post P mid J A w J' A' w' ∧ VR J' v v' ∧ Returns P f args' w w' v' kd cs
  rnd : ∀ l args A v A', K.rnd l args A = some (v, A') → ∀ J w l' args', HR P mid J A w → J.ι l = some l' → VRs J args args'.toList → ∀ c cs,
    ∃ J' w' v', Post P mid J A w J' A' w' ∧ VR J' v v' ∧ Rounds P l' args' w w' v' c cs
end

section
variable {P : Program} {mid : String → Option Nat} {T : Tab} {K : Kont} {J : KW} {A : AW} {w : World} {env : List AV} {a : Act}

theorem put_put (J : KW) {env : List AV} {a : Act} (h : VRs J env a.tmps.toList) (d : Option Nat) {v : AV} {v' : Value} (hv : VR J v v') :
    VRs J (putE env d v) (a.put d v').tmps.toList := by
  cases d with
  | none => exact h
  | some d =>
    simp only [putE, Act.put, Array.toList_setIfInBounds]
    exact h.set d hv

theorem put_defers (a : Act) (d : Option Nat) (v : Value) : (a.put d v).defers = a.defers := by cases d <;> rfl
theorem put_env (s : ASt) (d : Option Nat) (v : AV) : (s.put d v).env = putE s.env d v := by cases d <;> rfl
theorem put_dfs (s : ASt) (d : Option Nat) (v : AV) : (s.put d v).dfs = s.dfs := by cases d <;> rfl
theorem put_A (s : ASt) (d : Option Nat) (v : AV) : (s.put d v).A = s.A := by cases d <;> rfl
theorem put_rn (s : ASt) (d : Option Nat) (v : AV) : (s.put d v).rn = s.rn := by cases d <;> rfl

theorem AR.put {s : ASt} {a : Act} (h : AR J s a) (d : Option Nat) {v : AV} {v' : Value} (hv : VR J v v') : AR J (s.put d v) (a.put d v') := by
  refine ⟨?_, ?_⟩
  · rw [put_env]; exact put_put J h.env d hv
  · rw [put_dfs, put_defers]; exact h.dfs

theorem VR.bool_inv {x : AV} {c : Bool} (h : VR J x (.bool c)) : x = .bool c := by
  cases x with
  | bool b => simp only [VR, Value.bool.injEq] at h; rw [h]
  | ptr p => rcases p with _ | ⟨_, _⟩ <;> simp [VR] at h
  | slc q => cases q <;> simp [VR] at h
  | map r => cases r <;> simp [VR] at h
  | _ => simp [VR] at h

theorem want_sim (hE : VRs J env a.tmps.toList) {ops : Array Oper} {o : Oper} {g : Option (Nat × Bool)} (hg : guardC ops o = some g) :
    Region.wanted o (yielded ops a.tmps) = want env g := by
  unfold guardC at hg
  unfold Region.wanted
  cases ho : o.guard with
  | none => rw [ho] at hg; simp only [Option.some.injEq] at hg; subst hg; rfl
  | some jb =>
    obtain ⟨j, b⟩ := jb
    rw [ho] at hg
    simp only [Option.bind_eq_bind, Option.bind_eq_some_iff, Option.some.injEq] at hg
    obtain ⟨t, ht, rfl⟩ := hg
    simp only [want, yielded]
    have ht2 : (ops[j]?).bind (fun x => x.dst) = some t := by simpa [Option.bind_eq_some_iff] using ht
    rw [ht2]
    simp only [Option.bind_some]
    cases he : env[t]? with
    | none =>
      have hl := hE.length
      have : a.tmps[t]? = none := by
        rw [List.getElem?_eq_none_iff] at he
        simp at hl ⊢; omega
      simp [this]
    | some x =>
      obtain ⟨v, hv, hr⟩ := hE.get he
      have hv : a.tmps[t]? = some v := by simpa using hv
      rw [hv]
      cases x with
      | bool c =>
        simp only [VR] at hr; subst hr
        cases c <;> cases b <;> rfl
      | _ =>
        have : ∀ c, v ≠ .bool c := by
          intro c e; subst e
          cases hr.bool_inv
        cases v <;> first | exact absurd rfl (this _) | rfl

theorem operC_op {ops : Array Oper} {o : Oper} {x : IOper} (h : operC P mid ops o = some x) : x.d = o.dst ∧ guardC ops o = some x.g ∧ x.o = (opC P mid o).getD .bad := by
  unfold operC at h
  simp only [Option.bind_eq_bind, Option.bind_eq_some_iff, Option.some.injEq] at h
  obtain ⟨g, hg, rfl⟩ := h
  exact ⟨rfl, hg, rfl⟩

theorem getD_bad {o : Oper} {i : IOp} (h : i = (opC P mid o).getD .bad) (hb : i ≠ .bad) : opC P mid o = some i := by
  cases hc : opC P mid o with
  | none => rw [hc] at h; exact absurd h hb
  | some j => rw [hc] at h; rw [h]; rfl

/-- one operation that is no deferring -/
theorem step_sim (hT : TOK P mid T) (hK : KOk P mid T K) (hE : VRs J env a.tmps.toList) (h : HR P mid J A w) {o : Oper} {i : IOp} (hi : opC P mid o = some i) {v : AV} {A' : AW} (he : evStep T K env A i = some (v, A'))
    {ops : Array Oper} {ix : Nat} (ho : ops[ix]? = some o) (hw : Region.wanted o (yielded ops a.tmps) = true) (b : Frame) (rest : List Nat) (k : List Item) (cs : List Frame) :
    ∃ J' w' v', Post P mid J A w J' A' w' ∧ VR J' v v' ∧ Steps P (lone (b.atR a (.inRegion ops (ix :: rest) :: k)) cs w) (lone (b.atR (a.put o.dst v') (.inRegion ops rest :: k)) cs w') := by
  have hnd : ∀ c, o.op ≠ .defer c := by
    intro c hc
    unfold opC at hi
    rw [hc] at hi
    simp only at hi
    split at hi
    · simp only [Option.bind_eq_bind, Option.bind_eq_some_iff, Option.some.injEq] at hi
      obtain ⟨_, _, _, _, rfl⟩ := hi
      unfold evStep at he
      simp only [evOp] at he
      generalize evCall T _ _ = r at he
      cases r <;> cases he
    · cases hi
  have hg := stepGR_op (P := P) (b := b) (k := k) (cs := cs) (w := w) (rest := rest) ho hw
  rw [Oper.semAt_eq _ _ _ hnd] at hg
  have hfin : ∀ v, (b.atR a (.inRegion ops (ix :: rest) :: k)).finish v = b.atR (a.put o.dst v) (.inRegion ops rest :: k) := by
    intro v; rw [Frame.finish_atR, ho]; rfl
  have hop := op_sim (T := T) hT hE h hi
  unfold evStep at he
  split at he
  · rename_i v0 A0 hev
    simp only [Option.some.injEq, Prod.mk.injEq] at he
    obtain ⟨rfl, rfl⟩ := he
    rw [hev] at hop
    obtain ⟨J', w', hp, ⟨v', hr, hv⟩ | ⟨hr, rfl⟩⟩ := hop
    · refine ⟨J', w', v', hp, hv, .one (step_lone_go ?_)⟩
      rw [hg, ← hfin]; simp [stepG.apply, hr]
    · refine ⟨J', w', undef, hp, VR.und J', .one (step_lone_go ?_)⟩
      rw [hg, ← hfin]; simp [stepG.apply, hr]
  · rename_i f args hev
    rw [hev] at hop
    obtain ⟨F, hF⟩ := hK.fn _ _ _ _ he
    obtain ⟨args', hr, hv⟩ := hop F hF
    obtain ⟨J', w', v', hp, hvr, tmps, todo, fn, hfn, hres, hs⟩ := hK.call _ _ _ _ _ he J w args' h hv .normal (b.atR a (.inRegion ops (ix :: rest) :: k) :: cs) (.inl rfl)
    refine ⟨J', w', v', hp, hvr, ?_⟩
    have henter : step P (lone (b.atR a (.inRegion ops (ix :: rest) :: k)) cs w) =
        .next (lone (Frame.enter P f args' .normal) (b.atR a (.inRegion ops (ix :: rest) :: k) :: cs) w) :=
      step_lone_go (by rw [hg]; simp [stepG.apply, hr, Frame.atR])
    refine .head henter (hs.trans (.one ?_))
    rw [← hfin]
    exact step_leave_returned ⟨rfl, rfl, rfl, fn, hfn, hres⟩
  · rename_i l args hev
    rw [hev] at hop
    obtain ⟨l', args', hl, hv, hr⟩ := hop
    obtain ⟨J', w', v', hp, hvr, fn, tmps, asg, body, hy, hs⟩ := hK.rnd _ _ _ _ _ he J w l' args' h hl hv (b.atR a (.inRegion ops (ix :: rest) :: k)) cs
    refine ⟨J', w', v', hp, hvr, ?_⟩
    have henter : step P (lone (b.atR a (.inRegion ops (ix :: rest) :: k)) cs w) =
        .next (lone (Frame.round l' fn tmps asg body .normal) (b.atR a (.inRegion ops (ix :: rest) :: k) :: cs) w) :=
      step_lone_go (by rw [hg]; simp [stepG.apply, hr, hy])
    refine .head henter ?_
    rw [← hfin]
    exact hs
  · cases he

/-- deferring -/
theorem dfr_sim (hT : TOK P mid T) (hE : VRs J env a.tmps.toList) (h : HR P mid J A w) {o : Oper} {f : Opd} {args : List Opd} (hi : opC P mid o = some (.dfr f args)) {d : ADef} (he : evOp T env A (.dfr f args) = .dfr d)
    {ops : Array Oper} {ix : Nat} (ho : ops[ix]? = some o) (hw : Region.wanted o (yielded ops a.tmps) = true) (b : Frame) (hb : b.roundOf = none) (rest : List Nat) (k : List Item) (cs : List Frame) :
    ∃ d', DR J d d' ∧ Steps P (lone (b.atR a (.inRegion ops (ix :: rest) :: k)) cs w) (lone (b.atR ({ a with defers := d' :: a.defers }.put o.dst undef) (.inRegion ops rest :: k)) cs w) := by
  have hg := stepGR_op (P := P) (b := b) (k := k) (cs := cs) (w := w) (rest := rest) ho hw
  rw [hb, Oper.semAt_none] at hg
  have hop := op_sim (T := T) hT hE h hi
  rw [he] at hop
  obtain ⟨d', hr, hd⟩ := hop
  refine ⟨d', hd, .one (step_lone_go ?_)⟩
  have : ({ b.atR a (.inRegion ops (ix :: rest) :: k) with defers := d' :: a.defers } : Frame).finish undef =
      b.atR ({ a with defers := d' :: a.defers }.put o.dst undef) (.inRegion ops rest :: k) := by
    have := Frame.finish_atR b { a with defers := d' :: a.defers } ops ix rest k undef
    rw [ho] at this; exact this
  rw [hg]; simp only [stepG.apply, Sem.runT_eq, hr, GStep.bare_after]
  exact congrArg (fun fr => GStep.go { frame := fr, callers := cs, status := .running, dying := none } w) this

theorem skip_sim {o : Oper} {ops : Array Oper} {ix : Nat} (ho : ops[ix]? = some o) (hw : Region.wanted o (yielded ops a.tmps) = false) (b : Frame) (rest : List Nat) (k : List Item) (cs : List Frame) :
    Steps P (lone (b.atR a (.inRegion ops (ix :: rest) :: k)) cs w) (lone (b.atR (a.put o.dst undef) (.inRegion ops rest :: k)) cs w) := by
  have hs := stepR_op_skip (P := P) (b := b) (a := a) (k := k) (cs := cs) (w := w) (ops := ops) (i := ix) (rest := rest) (by simp [ho]; exact hw)
  simp only [ho, Option.bind_some] at hs
  exact .one hs

/-- a row of operations -/
theorem ops_sim (hT : TOK P mid T) (hK : KOk P mid T K) {ops : Array Oper} (b : Frame) (k : List Item) (cs : List Frame) :
    ∀ (n i0 : Nat) (l : List IOper) (s s' : ASt) (J : KW) (a : Act) (w : World), i0 + n = ops.size → opersC P mid ops (ops.toList.drop i0) = some l → evOps T K l s = some s' → RnR J s.rn b.roundOf → HR P mid J s.A w → AR J s a →
      ∃ J' a' w', Post P mid J s.A w J' s'.A w' ∧ AR J' s' a' ∧ s'.rn = s.rn ∧ Steps P (lone (b.atR a (.inRegion ops (List.range' i0 n) :: k)) cs w) (lone (b.atR a' k) cs w') := by
  intro n
  induction n with
  | zero =>
    intro i0 l s s' J a w hn hl he _ h ha
    have : ops.toList.drop i0 = [] := by rw [List.drop_eq_nil_iff]; simp; omega
    rw [this] at hl
    simp only [opersC, Option.some.injEq] at hl; subst hl
    simp only [evOps, Option.some.injEq] at he; subst he
    exact ⟨J, a, w, Post.refl h, ha, rfl, .one stepR_region_end⟩
  | succ n ih =>
    intro i0 l s s' J a w hn hl he hrn h ha
    have hlt : i0 < ops.size := by omega
    have hd : ops.toList.drop i0 = ops[i0] :: ops.toList.drop (i0 + 1) := by
      rw [List.drop_eq_getElem_cons (by simpa using hlt)]; simp
    rw [hd] at hl
    simp only [opersC, Option.bind_eq_bind, Option.bind_eq_some_iff, Option.some.injEq] at hl
    obtain ⟨x, hx, xs, hxs, rfl⟩ := hl
    obtain ⟨hxd, hxg, hxo⟩ := operC_op hx
    have ho : ops[i0]? = some ops[i0] := by simp [hlt]
    have hw := want_sim ha.env hxg
    simp only [List.range'_succ]
    simp only [evOps] at he
    split at he
    · rename_i hwant
      rw [hwant] at hw
      obtain ⟨J', a', w', hp, ha', hrn', hs⟩ := ih (i0 + 1) xs _ s' J (a.put ops[i0].dst undef) w (by omega) hxs he (by rw [put_rn]; exact hrn) (by rw [put_A]; exact h) (by rw [hxd]; exact ha.put _ (VR.und J))
      rw [put_A] at hp
      rw [put_rn] at hrn'
      exact ⟨J', a', w', hp, ha', hrn', (skip_sim ho hw b _ k cs).trans hs⟩
    · rename_i hwant
      rw [hwant] at hw
      split at he
      · rename_i f args hdf
        split at he
        · rename_i d hev hnone
          have hoc := getD_bad (P := P) (mid := mid) (o := ops[i0]) (i := .dfr f args) (by rw [← hdf, hxo]) (by simp)
          rw [hnone] at hrn
          obtain ⟨d', hdr, hs1⟩ := dfr_sim hT ha.env h hoc hev ho hw b hrn (List.range' (i0 + 1) n) k cs
          have ha1 : AR J ({ s with dfs := d :: s.dfs }.put x.d und) ({ a with defers := d' :: a.defers }.put ops[i0].dst undef) := by
            rw [hxd]
            exact AR.put (s := { s with dfs := d :: s.dfs }) (a := { a with defers := d' :: a.defers }) ⟨ha.env, ⟨d', _, rfl, hdr, ha.dfs⟩⟩ _ (VR.und J)
          obtain ⟨J', a', w', hp, ha', hrn', hs⟩ := ih (i0 + 1) xs _ s' J _ w (by omega) hxs he (by rw [put_rn]; simp only [hnone]; exact hrn) (by rw [put_A]; exact h) ha1
          rw [put_A] at hp
          rw [put_rn] at hrn'
          exact ⟨J', a', w', hp, ha', hrn', hs1.trans hs⟩
        · cases he
      · split at he
        · rename_i v A' hst
          have hnb : x.o ≠ .bad := by
            intro e; rw [e] at hst; simp [evStep, evOp] at hst
          have hoc := getD_bad (P := P) (mid := mid) (o := ops[i0]) (i := x.o) hxo hnb
          obtain ⟨J1, w1, v', hp1, hv, hs1⟩ := step_sim hT hK ha.env h hoc hst ho hw b (List.range' (i0 + 1) n) k cs
          have ha1 : AR J1 ({ s with A := A' }.put x.d v) (a.put ops[i0].dst v') := by
            rw [hxd]
            exact AR.put (s := { s with A := A' }) ⟨(ha.mono hp1.le).env, (ha.mono hp1.le).dfs⟩ _ hv
          obtain ⟨J', a', w', hp, ha', hrn', hs⟩ := ih (i0 + 1) xs _ s' J1 _ w1 (by omega) hxs he (by rw [put_rn]; exact hrn.mono hp1.le) (by rw [put_A]; exact hp1.hr) ha1
          rw [put_A] at hp
          rw [put_rn] at hrn'
          exact ⟨J', a', w', hp1.trans hp, ha', hrn', hs1.trans hs⟩
        · cases he
end
end Go.Ae
/- Code: what the evaluator does, the model does. -/
namespace Go.Ae
open Go
section
variable (P : Program) (mid : String → Option Nat) (T : Tab) (K : Kont)

/-- where code leads to -/
def Goes (m : Machine) (b : Frame) (k : List Item) (cs : List Frame) : AEx → Act → World → Prop
  | .norm, a, w => Steps P m (lone (b.atR a k) cs w)
  | .exit id, a, w => ∃ k2, exitTo id k2 = exitTo id k ∧ Steps P m (lone (b.atR a (.code (.exit id) :: k2)) cs w)
  | .goto l, a, w => ∃ k2, gotoIn l k2 = gotoIn l k ∧ Steps P m (lone (b.atR a (.code (.goto l) :: k2)) cs w)
  | .ret, a, w => ∃ k2, Steps P m (lone (b.atR a (.code .ret :: k2)) cs w)

def Sim (m : Machine) (b : Frame) (k : List Item) (cs : List Frame) (J : KW) (s : ASt) (w : World) (ex : AEx) (s' : ASt) : Prop :=
  ∃ J' a' w', Post P mid J s.A w J' s'.A w' ∧ AR J' s' a' ∧ s'.rn = s.rn ∧ Goes P m b k cs ex a' w'

def DrawSim : Prop := ∀ id ops n l, codeC P mid (.region id ops true) = some (.draw n l) → ∀ s s', evDraw T K n l s = some s' → ∀ J a w (b : Frame) k cs, RnR J s.rn b.roundOf → HR P mid J s.A w → AR J s a →
  ∃ J' a' w', Post P mid J s.A w J' s'.A w' ∧ AR J' s' a' ∧ s'.rn = s.rn ∧ Steps P (lone (b.atR a (.code (.region id ops true) :: k)) cs w) (lone (b.atR a' k) cs w')

/-- code from its beginning -/
def CSim (fn : Nat) (c : Code) (f : ASt → Option (AEx × ASt)) : Prop :=
  ∀ s ex s', f s = some (ex, s') → ∀ J a w (b : Frame) k cs, b.fn = fn → RnR J s.rn b.roundOf → HR P mid J s.A w → AR J s a → Sim P mid (lone (b.atR a (.code c :: k)) cs w) b k cs J s w ex s'
end

section
variable {P : Program} {mid : String → Option Nat} {T : Tab} {K : Kont}

theorem Goes.of_steps {m m1 : Machine} {b : Frame} {k : List Item} {cs : List Frame} {ex : AEx} {a : Act} {w : World} (h : Steps P m m1) (hg : Goes P m1 b k cs ex a w) : Goes P m b k cs ex a w := by
  cases ex with
  | norm => exact h.trans hg
  | exit id => obtain ⟨k2, e, hs⟩ := hg; exact ⟨k2, e, h.trans hs⟩
  | goto l => obtain ⟨k2, e, hs⟩ := hg; exact ⟨k2, e, h.trans hs⟩
  | ret => obtain ⟨k2, hs⟩ := hg; exact ⟨k2, h.trans hs⟩

theorem Sim.of_steps {m m1 : Machine} {b : Frame} {k : List Item} {cs : List Frame} {J : KW} {s s' : ASt} {w : World} {ex : AEx} (h : Steps P m m1) (hg : Sim P mid m1 b k cs J s w ex s') : Sim P mid m b k cs J s w ex s' := by
  obtain ⟨J', a', w', h1, h2, h3, h4⟩ := hg
  exact ⟨J', a', w', h1, h2, h3, h4.of_steps h⟩

/-- an item that lets jumps through -/
theorem Goes.pass {m : Machine} {b : Frame} {x : Item} {k : List Item} {cs : List Frame} {ex : AEx} {a : Act} {w : World} (hn : ex ≠ .norm) (h1 : ∀ id, ex = .exit id → exitTo id (x :: k) = exitTo id k) (h2 : ∀ l, ex = .goto l → gotoIn l (x :: k) = gotoIn l k)
    (hg : Goes P m b (x :: k) cs ex a w) : Goes P m b k cs ex a w := by
  cases ex with
  | norm => exact absurd rfl hn
  | exit id => obtain ⟨k2, e, hs⟩ := hg; exact ⟨k2, e.trans (h1 id rfl), hs⟩
  | goto l => obtain ⟨k2, e, hs⟩ := hg; exact ⟨k2, e.trans (h2 l rfl), hs⟩
  | ret => exact hg

theorem seq_sim {fn : Nat} {y : Code} {g : ASt → Option (AEx × ASt)} (hy : CSim P mid fn y g) {m : Machine} {b : Frame} {k : List Item} {cs : List Frame} {J : KW} {s s1 s' : ASt} {w : World} {ex1 ex : AEx}
    (hb : b.fn = fn) (hrn : RnR J s.rn b.roundOf) (h : Sim P mid m b (.code y :: k) cs J s w ex1 s1)
    (he : (match some (ex1, s1) with | some (.norm, s') => g s' | r => r) = some (ex, s')) : Sim P mid m b k cs J s w ex s' := by
  obtain ⟨J1, a1, w1, hp, ha, hr, hg⟩ := h
  cases ex1 with
  | norm =>
    obtain ⟨J2, a2, w2, hp2, ha2, hr2, hg2⟩ := hy s1 ex s' he J1 a1 w1 b k cs hb (by rw [hr]; exact hrn.mono hp.le) hp.hr ha
    exact ⟨J2, a2, w2, hp.trans hp2, ha2, hr2.trans hr, hg2.of_steps hg⟩
  | _ =>
    simp only [Option.some.injEq, Prod.mk.injEq] at he
    obtain ⟨rfl, rfl⟩ := he
    exact ⟨J1, a1, w1, hp, ha, hr, hg.pass (by simp) (fun _ _ => rfl) (fun _ _ => rfl)⟩

theorem iter_sim {fn : Nat} {c : Code} {f : ASt → Option (AEx × ASt)} (hf : CSim P mid fn c f) : ∀ (n : Nat) (s : ASt) (ex : AEx) (s' : ASt), iter f n s = some (ex, s') → ∀ J a w (b : Frame) k cs, b.fn = fn → RnR J s.rn b.roundOf → HR P mid J s.A w → AR J s a →
    Sim P mid (lone (b.atR a (.code c :: .inLoop c :: k)) cs w) b k cs J s w ex s' := by
  intro n
  induction n with
  | zero => intro s ex s' h; cases h
  | succ n ih =>
    intro s ex s' h J a w b k cs hb hrn hh ha
    simp only [iter] at h
    cases hfs : f s with
    | none => rw [hfs] at h; cases h
    | some r =>
      obtain ⟨ex1, s1⟩ := r
      rw [hfs] at h
      obtain ⟨J1, a1, w1, hp, ha1, hr, hg⟩ := hf s ex1 s1 hfs J a w b (.inLoop c :: k) cs hb hrn hh ha
      cases ex1 with
      | norm =>
        obtain ⟨J2, a2, w2, hp2, ha2, hr2, hg2⟩ := ih s1 ex s' h J1 a1 w1 b k cs hb (by rw [hr]; exact hrn.mono hp.le) hp.hr ha1
        exact ⟨J2, a2, w2, hp.trans hp2, ha2, hr2.trans hr, hg2.of_steps (Steps.trans hg (.one stepR_inLoop))⟩
      | _ =>
        simp only [Option.some.injEq, Prod.mk.injEq] at h
        obtain ⟨rfl, rfl⟩ := h
        exact ⟨J1, a1, w1, hp, ha1, hr, hg.pass (by simp) (fun _ _ => rfl) (fun _ _ => rfl)⟩

theorem stepR_scope {b : Frame} {a : Act} {k : List Item} {cs : List Frame} {w : World} {c : Code} :
    step P (lone (b.atR a (.code (.scope c) :: k)) cs w) = .next (lone (b.atR a (.code c :: .inScope c :: k)) cs w) :=
  step_lone_go (by simp [stepG, stepG.exec, Frame.atR])

theorem stepR_inScope {b : Frame} {a : Act} {k : List Item} {cs : List Frame} {w : World} {c : Code} :
    step P (lone (b.atR a (.inScope c :: k)) cs w) = .next (lone (b.atR a k) cs w) :=
  step_lone_go (by simp [stepG, stepG.exec, Frame.atR])

/-- code from a label on -/
def LSim (P : Program) (mid : String → Option Nat) (fn : Nat) (c : Code) (f : Nat → ASt → Option (AEx × ASt)) : Prop :=
  ∀ l s ex s', f l s = some (ex, s') → ∃ rest, findLabel c l = some rest ∧ ∀ J a w (b : Frame) k cs, b.fn = fn → RnR J s.rn b.roundOf → HR P mid J s.A w → AR J s a → Sim P mid (lone (b.atR a (.code rest :: k)) cs w) b k cs J s w ex s'

theorem scp_sim {fn : Nat} {c : Code} {f : Option Nat → ASt → Option (AEx × ASt)} {has : Nat → Bool} (hf : CSim P mid fn c (f none)) (hl : LSim P mid fn c (fun l => f (some l))) (hhas : ∀ l, has l = (findLabel c l).isSome) :
    ∀ (n : Nat) (m : Option Nat) (s : ASt) (ex : AEx) (s' : ASt), scp f has n m s = some (ex, s') → ∀ J a w (b : Frame) k cs, b.fn = fn → RnR J s.rn b.roundOf → HR P mid J s.A w → AR J s a →
    ∃ c', (match m with | none => c' = c | some l => findLabel c l = some c') ∧ Sim P mid (lone (b.atR a (.code c' :: .inScope c :: k)) cs w) b k cs J s w ex s' := by
  intro n
  induction n with
  | zero => intro m s ex s' h; cases h
  | succ n ih =>
    intro m s ex s' h J a w b k cs hb hrn hh ha
    simp only [scp] at h
    cases hfs : f m s with
    | none => rw [hfs] at h; cases h
    | some r =>
      obtain ⟨ex1, s1⟩ := r
      rw [hfs] at h
      have key : ∃ c', (match m with | none => c' = c | some l => findLabel c l = some c') ∧ Sim P mid (lone (b.atR a (.code c' :: .inScope c :: k)) cs w) b (.inScope c :: k) cs J s w ex1 s1 := by
        cases m with
        | none => exact ⟨c, rfl, hf s ex1 s1 hfs J a w b (.inScope c :: k) cs hb hrn hh ha⟩
        | some l =>
          obtain ⟨rest, e, hs⟩ := hl l s ex1 s1 hfs
          exact ⟨rest, e, hs J a w b (.inScope c :: k) cs hb hrn hh ha⟩
      obtain ⟨c', hc', J1, a1, w1, hp, ha1, hr, hg⟩ := key
      refine ⟨c', hc', ?_⟩
      cases ex1 with
      | norm =>
        simp only [Option.some.injEq, Prod.mk.injEq] at h
        obtain ⟨rfl, rfl⟩ := h
        exact ⟨J1, a1, w1, hp, ha1, hr, Steps.trans hg (.one stepR_inScope)⟩
      | goto l =>
        simp only at h
        cases hhl : has l with
        | true =>
          rw [hhl] at h
          simp only [cond_true] at h
          obtain ⟨c2, hc2, J2, a2, w2, hp2, ha2, hr2, hg2⟩ := ih (some l) s1 ex s' h J1 a1 w1 b k cs hb (by rw [hr]; exact hrn.mono hp.le) hp.hr ha1
          simp only at hc2
          obtain ⟨k2, e, hs⟩ := hg
          have e2 : gotoIn l k2 = some (.code c2 :: .inScope c :: k) := by
            rw [e]; simp only [gotoIn, hc2]
          exact ⟨J2, a2, w2, hp.trans hp2, ha2, hr2.trans hr, hg2.of_steps (Steps.trans hs (.one (stepR_goto e2)))⟩
        | false =>
          rw [hhl] at h
          simp only [cond_false, Option.some.injEq, Prod.mk.injEq] at h
          obtain ⟨rfl, rfl⟩ := h
          have hnone : findLabel c l = none := by
            have := hhas l
            rw [hhl] at this
            simpa using this.symm
          exact ⟨J1, a1, w1, hp, ha1, hr, hg.pass (by simp) (fun _ h => by cases h) (fun l' h => by cases h; simp only [gotoIn, hnone])⟩
      | exit id =>
        simp only [Option.some.injEq, Prod.mk.injEq] at h
        obtain ⟨rfl, rfl⟩ := h
        exact ⟨J1, a1, w1, hp, ha1, hr, hg.pass (by simp) (fun _ _ => rfl) (fun _ h => by cases h)⟩
      | ret =>
        simp only [Option.some.injEq, Prod.mk.injEq] at h
        obtain ⟨rfl, rfl⟩ := h
        exact ⟨J1, a1, w1, hp, ha1, hr, hg.pass (by simp) (fun _ h => by cases h) (fun _ h => by cases h)⟩
end
end Go.Ae
/- Code: loops over functions; code of any kind. -/
namespace Go.Ae
open Go
section
variable {P : Program} {mid : String → Option Nat} {T : Tab} {K : Kont}

theorem stepR_rangeFunc {b : Frame} {a : Act} {k : List Item} {cs : List Frame} {w w1 : World} {f : Operand} {ps : Array Tmp} {x y : Code} {l : Nat} {mark : List Deferred} {g : Nat} {args : Array Value}
    (h1 : (Instr.enterLoop b.fn a.tmps ps x y b.roundOf).run P w = .ok (l, mark) w1)
    (h2 : ((do let d ← Deferred.ofValue (a.eval f) #[.func (.yield l) #[] #[]]; invoke d.target d.args : Sem Next).run P w1) = .ok (.enter g args) w1) :
    step P (lone (b.atR a (.code (.rangeFunc f ps x y) :: k)) cs w) = .next (lone (Frame.enter P g args .normal) ((b.atR { a with defers := mark ++ a.defers } (.inRangeFunc l :: k)) :: cs) w1) := by
  have he : (b.atR { a with defers := mark ++ a.defers } (.inRangeFunc l :: k)).eval = a.eval := Frame.eval_atR b { a with defers := mark ++ a.defers } _
  refine step_lone_go ?_
  simp only [Frame.atR] at he
  have h3 : ((do let d ← resolve a.eval { callee := .value f, args := #[.const (.func (.yield l) #[] #[])], argTypes := #[] } 0; invoke d.target d.args : Sem Next).run P w1) = .ok (.enter g args) w1 := by
    rw [← h2]; simp [resolve, Act.eval]
  simp only [stepG, stepG.exec, Frame.atR, Sem.runT_eq, h1, GStep.bare_after, stepG.apply, he, h3]
  rfl

theorem stepR_endRangeFunc {b : Frame} {a : Act} {k : List Item} {cs : List Frame} {w w1 : World} {l : Nat} {jump : Option Code} (h : (Instr.endLoop l).run P w = .ok jump w1) :
    step P (lone (b.atR a (.endRangeFunc l :: k)) cs w) = .next (lone (b.atR a ((jump.map Item.code).toList ++ k)) cs w1) := by
  refine step_lone_go ?_
  simp [stepG, stepG.exec, Frame.atR, Sem.runT_eq, h]

theorem goes_jump {m : Machine} {b : Frame} {a : Act} {k : List Item} {cs : List Frame} {w : World} (j : Option Jmp) (h : Steps P m (lone (b.atR a (((j.map jcode).map Item.code).toList ++ k)) cs w)) :
    Goes P m b k cs (match j with | none => .norm | some j => jump j) a w := by
  cases j with
  | none => exact h
  | some j =>
    cases j with
    | ret => exact ⟨k, h⟩
    | exit id => exact ⟨k, rfl, h⟩
    | goto l => exact ⟨k, rfl, h⟩

/-- a live loop -/
theorem HR.loop {J : KW} {A : AW} {w : World} (h : HR P mid J A w) {l l' : Nat} {st : LoopState} {pend : Option Jmp} {fn : Nat} {env : List AV} {ps : List Nat} {asg body : IC} {dfd : Nat} (hl : A.get l = some (.loop st pend fn env ps asg body dfd)) (hJ : J.ι l = some l') :
    ∃ r : Loop, w.heap[l']? = some (.loop r) ∧ (Instr.getLoop l').run P w = .ok r w ∧ r.state = st ∧ r.pending = pend.map jcode ∧ r.fn = fn ∧ VRs J env r.tmps.toList ∧ r.params.toList = ps ∧ codeC P mid r.assign = some asg ∧ codeC P mid r.body = some body ∧ J.ι dfd = some r.defers := by
  obtain ⟨b, c, hb, hc, hor⟩ := h.obj l _ hl
  rw [hJ] at hb; cases hb
  simp only [OR] at hor
  obtain ⟨r, rfl, h1⟩ := hor
  refine ⟨r, hc, ?_, h1⟩
  have := run_getObj' (P := P) hc (by intro cs e fr h; cases h)
  simp [Instr.getLoop, this]

/-- a loop's object turns -/
theorem post_loop {J : KW} {A : AW} {w : World} (h : HR P mid J A w) {l l' : Nat} {st : LoopState} {pend : Option Jmp} {fn : Nat} {env : List AV} {ps : List Nat} {asg body : IC} {dfd : Nat} (hl : A.get l = some (.loop st pend fn env ps asg body dfd)) (hJ : J.ι l = some l')
    {r : Loop} (hr : w.heap[l']? = some (.loop r)) (st' : LoopState) (pend' : Option Jmp)
    (h1 : r.fn = fn ∧ VRs J env r.tmps.toList ∧ r.params.toList = ps ∧ codeC P mid r.assign = some asg ∧ codeC P mid r.body = some body ∧ J.ι dfd = some r.defers) :
    (setObj l' (.loop { r with state := st', pending := pend'.map jcode })).run P w = .ok () (putB w l' (.loop { r with state := st', pending := pend'.map jcode })) ∧
    Post P mid J A w J (A.set l (.loop st' pend' fn env ps asg body dfd)) (putB w l' (.loop { r with state := st', pending := pend'.map jcode })) := by
  refine ⟨run_setObj' hr (by intro cs e fr h; cases h), post_upd h hl rfl hJ ?_ (by intro cs e fr h; cases h) (by intro cs e h; cases h)⟩
  exact ⟨_, rfl, rfl, rfl, h1⟩

theorem rfGo_sim (hT : TOK P mid T) (hK : KOk P mid T K) {f : Operand} {f' : Opd} (hf : opd P.globals.size f = some f') {ps : Array Tmp} {x y : Code} {l : Nat} {A : AW} {s s' : ASt} {ex : AEx} (he : evRfGo T K f' l A s = some (ex, s'))
    {J J1 : KW} {a : Act} {w w1 : World} {b : Frame} {k : List Item} {cs : List Frame} {s0 : ASt} (hp : Post P mid J s0.A w J1 A w1) {l' : Nat} {mark : List Deferred} (hl : J1.ι l = some l') (h1 : (Instr.enterLoop b.fn a.tmps ps x y b.roundOf).run P w = .ok (l', mark) w1)
    (ha : AR J1 s { a with defers := mark ++ a.defers }) (hrn : s.rn = s0.rn) : Sim P mid (lone (b.atR a (.code (.rangeFunc f ps x y) :: k)) cs w) b k cs J s0 w ex s' := by
  have hfv : VR J1 (ev s.env f') (a.eval f) := ev_sim (a := { a with defers := mark ++ a.defers }) ha.env hp.hr hf
  have hyv : VRs J1 [.fn (.yield l) [] []] (#[Value.func (.yield l') #[] #[]] : Array Value).toList := by
    simp only [VRs, VR, FR]
    exact ⟨_, _, rfl, ⟨_, _, _, rfl, ⟨l', rfl, hl⟩, rfl, rfl⟩, rfl⟩
  unfold evRfGo at he
  split at he
  · rename_i g args hev
    have hop := evCall_sim (P := P) (mid := mid) (T := T) (J := J1) (A := A) (w := w1) hT hfv hyv #[] 0
    rw [hev] at hop
    split at he
    · rename_i v A' hcall
      obtain ⟨F, hF⟩ := hK.fn _ _ _ _ hcall
      obtain ⟨args', hr, hv⟩ := hop F hF
      obtain ⟨J2, w2, v', hp2, _, tmps, todo, fn, hfn, hres, hs⟩ := hK.call _ _ _ _ _ hcall J1 w1 args' hp.hr hv .normal ((b.atR { a with defers := mark ++ a.defers } (.inRangeFunc l' :: k)) :: cs) (.inl rfl)
      have hs1 := stepR_rangeFunc (P := P) (k := k) (cs := cs) h1 hr
      have hs2 := step_leave_returned (P := P) (fr := { fn := g, tmps, todo, defers := [], mode := .returning, kind := .normal }) (c := b.atR { a with defers := mark ++ a.defers } (.inRangeFunc l' :: k)) (cs := cs) (w := w2) (v := v') ⟨rfl, rfl, rfl, fn, hfn, hres⟩
      have hfin : (b.atR { a with defers := mark ++ a.defers } (.inRangeFunc l' :: k)).finish v' = b.atR { a with defers := mark ++ a.defers } (.endRangeFunc l' :: k) := rfl
      rw [hfin] at hs2
      have hsteps : Steps P (lone (b.atR a (.code (.rangeFunc f ps x y) :: k)) cs w) (lone (b.atR { a with defers := mark ++ a.defers } (.endRangeFunc l' :: k)) cs w2) := .head hs1 (hs.trans (.one hs2))
      split at he
      · rename_i st pend fn env ps' asg body dfd hg
        have hl2 := (hp2.le _ _ hl).1
        obtain ⟨r, hrh, hgl, hst, hpd, hrest⟩ := hp2.hr.loop hg hl2
        split at he
        · cases he
        · rename_i hnb
          simp only [Option.some.injEq, Prod.mk.injEq] at he
          obtain ⟨rfl, rfl⟩ := he
          obtain ⟨hset, hp3⟩ := post_loop hp2.hr hg hl2 hrh .exhausted pend hrest
          have hend : (Instr.endLoop l').run P w2 = .ok (pend.map jcode) (putB w2 l' (.loop { r with state := .exhausted, pending := pend.map jcode })) := by
            have hnb2 : (r.state == LoopState.busy) = false := by
              rw [hst]; cases st <;> first | rfl | exact absurd rfl hnb
            have hup : ({ r with state := .exhausted } : Loop) = { r with state := .exhausted, pending := pend.map jcode } := by rw [← hpd]
            simp only [Instr.endLoop, Sem.run_bind, hgl, Result.andThen_ok, hnb2, Bool.false_eq_true, if_false]
            rw [hup, hset]
            simp [hpd]
          refine ⟨J2, { a with defers := mark ++ a.defers }, _, (hp.trans hp2).trans hp3, ⟨VRs.mono hp2.le _ _ ha.env, ha.dfs.mono hp2.le⟩, hrn, ?_⟩
          have hg := goes_jump (P := P) pend (hsteps.trans (.one (stepR_endRangeFunc (k := k) hend)))
          cases pend <;> exact hg
      · cases he
    · cases he
  · cases he

theorem rf_sim (hT : TOK P mid T) (hK : KOk P mid T K) {fn : Nat} {f : Operand} {f' : Opd} (hf : opd P.globals.size f = some f') {ps : Array Tmp} {x y : Code} {x' y' : IC} (hx : codeC P mid x = some x') (hy : codeC P mid y = some y') :
    CSim P mid fn (.rangeFunc f ps x y) (evRf T K fn f' ps.toList x' y') := by
  intro s ex s' he J a w b k cs hb hrn h ha
  unfold evRf at he
  split at he
  · rename_i l hsl
    rw [hsl] at hrn
    obtain ⟨l0, hro, hl0⟩ := hrn
    split at he
    · rename_i dfd hg
      obtain ⟨r, hrh, hgl, hst, hpd, hfn0, _, _, _, _, hdf⟩ := h.loop hg hl0
      have hk := post_new (P := P) (mid := mid) h (o := .loop .ready none fn s.env ps.toList x' y' dfd) (c := .loop { state := .ready, pending := none, fn, tmps := a.tmps, params := ps, assign := x, body := y, defers := r.defers }) (by intro cs e h; cases h)
      have hle : KW.le J (J.ext s.A.nx w.heap.size 0) := by
        refine KW.le_ext ?_ fun j d hj => by have := (h.dom j d hj).2; omega
        cases hj : J.ι s.A.nx with
        | none => rfl
        | some b => have := (h.dom _ _ hj).1; omega
      obtain ⟨hp, _⟩ := hk ⟨_, rfl, rfl, rfl, rfl, VRs.mono hle _ _ ha.env, rfl, hx, hy, (hle _ _ hdf).1⟩
      refine rfGo_sim hT hK hf he (s0 := s) hp (l' := w.heap.size) (mark := []) (by simp [KW.ext]) ?_ ⟨VRs.mono hp.le _ _ ha.env, ha.dfs.mono hp.le⟩ rfl
      simp [Instr.enterLoop, hro, hgl, hb]
    · cases he
  · rename_i hsl
    rw [hsl] at hrn
    have hro : b.roundOf = none := hrn
    obtain ⟨hp1, _⟩ := post_new (P := P) (mid := mid) h (o := .dfr true) (c := .deferred (some [])) (by intro cs e h; cases h) rfl
    have hn1 : (J.ext s.A.nx w.heap.size (sizeOf' (.deferred (some [])))).ι s.A.nx = some w.heap.size := by simp [KW.ext]
    have hk := post_new (P := P) (mid := mid) hp1.hr (o := .loop .ready none fn s.env ps.toList x' y' s.A.nx) (c := .loop { state := .ready, pending := none, fn, tmps := a.tmps, params := ps, assign := x, body := y, defers := w.heap.size }) (by intro cs e h; cases h)
    generalize hJ1 : (J.ext s.A.nx w.heap.size (sizeOf' (.deferred (some [])))) = J1 at hp1 hn1 hk
    have hle : KW.le J1 (J1.ext (s.A.new (.dfr true)).nx (w.heap.push (.deferred (some []))).size 0) := by
      refine KW.le_ext ?_ fun j d hj => by have := (hp1.hr.dom j d hj).2; simp only at this; omega
      cases hj : J1.ι (s.A.new (.dfr true)).nx with
      | none => rfl
      | some b => have := (hp1.hr.dom _ _ hj).1; omega
    obtain ⟨hp2, _⟩ := hk ⟨_, rfl, rfl, rfl, rfl, VRs.mono hle _ _ (VRs.mono hp1.le _ _ ha.env), rfl, hx, hy, (hle _ _ hn1).1⟩
    refine rfGo_sim hT hK hf he (s0 := s) (hp1.trans hp2) (l' := w.heap.size + 1) (mark := [{ target := .collected w.heap.size, args := #[] }]) (by simp [KW.ext]) ?_ ⟨VRs.mono hp2.le _ _ (VRs.mono hp1.le _ _ ha.env), ?_⟩ rfl
    · simp [Instr.enterLoop, hro, hb]; rfl
    · exact ⟨_, _, rfl, ⟨w.heap.size, rfl, (hp2.le _ _ hn1).1⟩, (ha.dfs.mono hp1.le).mono hp2.le⟩
end
end Go.Ae
/- Code of any kind; calls of functions; rounds. -/
namespace Go.Ae
open Go
section
variable {P : Program} {mid : String → Option Nat} {T : Tab} {K : Kont}

theorem hasL_label : ∀ (c : Code) (ic : IC), codeC P mid c = some ic → ∀ l, hasL ic l = (findLabel c l).isSome := by
  intro c
  induction c with
  | seq a b iha ihb =>
    intro ic h l
    simp only [codeC, Option.bind_eq_bind, Option.bind_eq_some_iff, Option.some.injEq] at h
    obtain ⟨x, hx, y, hy, rfl⟩ := h
    simp only [hasL, findLabel, iha x hx, ihb y hy]
    cases findLabel a l <;> simp
  | label l' =>
    intro ic h l
    simp only [codeC, Option.some.injEq] at h; subst h
    simp only [hasL, findLabel]
    cases hb : Nat.beq l' l
    · have := Nat.ne_of_beq_eq_false hb
      simp [this]
    · have := Nat.eq_of_beq_eq_true hb
      simp [this]
  | region id ops dr =>
    intro ic h l
    cases dr with
    | false =>
      simp only [codeC, Option.map_eq_some_iff] at h
      obtain ⟨_, _, rfl⟩ := h; rfl
    | true =>
      simp only [codeC, Option.bind_eq_bind, Option.bind_eq_some_iff] at h
      obtain ⟨_, _, h⟩ := h
      split at h
      · simp only [Option.some.injEq] at h; subst h; rfl
      · cases h
  | cond c a b _ _ =>
    intro ic h l
    simp only [codeC, Option.bind_eq_bind, Option.bind_eq_some_iff, Option.some.injEq] at h
    obtain ⟨_, _, _, _, _, _, rfl⟩ := h; rfl
  | block id a _ =>
    intro ic h l
    simp only [codeC, Option.bind_eq_bind, Option.bind_eq_some_iff, Option.some.injEq] at h
    obtain ⟨_, _, rfl⟩ := h; rfl
  | loop a _ =>
    intro ic h l
    simp only [codeC, Option.bind_eq_bind, Option.bind_eq_some_iff, Option.some.injEq] at h
    obtain ⟨_, _, rfl⟩ := h; rfl
  | scope a _ =>
    intro ic h l
    simp only [codeC, Option.bind_eq_bind, Option.bind_eq_some_iff, Option.some.injEq] at h
    obtain ⟨_, _, rfl⟩ := h; rfl
  | rangeFunc f ps a b _ _ =>
    intro ic h l
    simp only [codeC, Option.bind_eq_bind, Option.bind_eq_some_iff, Option.some.injEq] at h
    obtain ⟨_, _, _, _, _, _, rfl⟩ := h; rfl
  | _ => intro ic h l; simp only [codeC, Option.some.injEq] at h; subst h; rfl

theorem none_lsim {fn : Nat} {c : Code} {f : Nat → ASt → Option (AEx × ASt)} (h : ∀ l s, f l s = none) : LSim P mid fn c f := by
  intro l s ex s' he
  rw [h l s] at he; cases he

theorem code_sim (hT : TOK P mid T) (hK : KOk P mid T K) (hD : DrawSim P mid T K) (n fn : Nat) : ∀ (c : Code) (ic : IC), codeC P mid c = some ic →
    CSim P mid fn c (evCode T K n fn ic none) ∧ LSim P mid fn c (fun l => evCode T K n fn ic (some l)) := by
  intro c
  induction c with
  | skip =>
    intro ic h
    simp only [codeC, Option.some.injEq] at h; subst h
    refine ⟨?_, none_lsim fun l s => rfl⟩
    intro s ex s' he J a w b k cs hb hrn hh ha
    simp only [evCode, Option.some.injEq, Prod.mk.injEq] at he
    obtain ⟨rfl, rfl⟩ := he
    exact ⟨J, a, w, Post.refl hh, ha, rfl, .one stepR_skip⟩
  | region id ops dr =>
    intro ic h
    cases dr with
    | false =>
      simp only [codeC, Option.map_eq_some_iff] at h
      obtain ⟨l, hl, rfl⟩ := h
      refine ⟨?_, none_lsim fun l s => rfl⟩
      intro s ex s' he J a w b k cs hb hrn hh ha
      simp only [evCode] at he
      split at he
      · rename_i s1 hs1
        simp only [Option.some.injEq, Prod.mk.injEq] at he
        obtain ⟨rfl, rfl⟩ := he
        obtain ⟨J', a', w', hp, ha', hr, hs⟩ := ops_sim (ops := ops) hT hK b k cs ops.size 0 l s s1 J a w (by omega) (by simpa using hl) hs1 hrn hh ha
        exact ⟨J', a', w', hp, ha', hr, .head stepR_region (by rw [List.range_eq_range']; exact hs)⟩
      · cases he
    | true =>
      have h0 := h
      simp only [codeC, Option.bind_eq_bind, Option.bind_eq_some_iff] at h
      obtain ⟨l, hl, h⟩ := h
      split at h
      · simp only [Option.some.injEq] at h; subst h
        refine ⟨?_, none_lsim fun l s => rfl⟩
        intro s ex s' he J a w b k cs hb hrn hh ha
        simp only [evCode] at he
        split at he
        · rename_i s1 hs1
          simp only [Option.some.injEq, Prod.mk.injEq] at he
          obtain ⟨rfl, rfl⟩ := he
          obtain ⟨J', a', w', hp, ha', hr, hs⟩ := hD id ops _ _ h0 s s1 hs1 J a w b k cs hrn hh ha
          exact ⟨J', a', w', hp, ha', hr, hs⟩
        · cases he
      · cases h
  | seq x y ihx ihy =>
    intro ic h
    have h0 := h
    simp only [codeC, Option.bind_eq_bind, Option.bind_eq_some_iff, Option.some.injEq] at h
    obtain ⟨x', hx, y', hy, rfl⟩ := h
    obtain ⟨hx1, hx2⟩ := ihx x' hx
    obtain ⟨hy1, hy2⟩ := ihy y' hy
    constructor
    · intro s ex s' he J a w b k cs hb hrn hh ha
      simp only [evCode] at he
      cases hf : evCode T K n fn x' none s with
      | none => rw [hf] at he; cases he
      | some r =>
        obtain ⟨ex1, s1⟩ := r
        rw [hf] at he
        exact (seq_sim hy1 hb hrn (hx1 s ex1 s1 hf J a w b (.code y :: k) cs hb hrn hh ha) (by rw [← he]; cases ex1 <;> rfl)).of_steps (.one stepR_seq)
    · intro l s ex s' he
      simp only [evCode] at he
      cases hh : hasL x' l with
      | true =>
        rw [hh] at he
        simp only [cond_true] at he
        cases hf : evCode T K n fn x' (some l) s with
        | none => rw [hf] at he; cases he
        | some r =>
          obtain ⟨ex1, s1⟩ := r
          rw [hf] at he
          obtain ⟨rest, hr, hs⟩ := hx2 l s ex1 s1 hf
          refine ⟨.seq rest y, by simp only [findLabel, hr], ?_⟩
          intro J a w b k cs hb hrn hh ha
          exact (seq_sim hy1 hb hrn (hs J a w b (.code y :: k) cs hb hrn hh ha) (by rw [← he]; cases ex1 <;> rfl)).of_steps (.one stepR_seq)
      | false =>
        rw [hh] at he
        simp only [cond_false] at he
        obtain ⟨rest, hr, hs⟩ := hy2 l s ex s' he
        refine ⟨rest, ?_, hs⟩
        have h1 := hasL_label x x' hx l
        rw [hh] at h1
        have : findLabel x l = none := by simpa using h1.symm
        simp only [findLabel, this, hr]
  | label l' =>
    intro ic h
    simp only [codeC, Option.some.injEq] at h; subst h
    constructor
    · intro s ex s' he J a w b k cs hb hrn hh ha
      simp only [evCode, Option.some.injEq, Prod.mk.injEq] at he
      obtain ⟨rfl, rfl⟩ := he
      exact ⟨J, a, w, Post.refl hh, ha, rfl, .one stepR_label⟩
    · intro l s ex s' he
      simp only [evCode] at he
      cases hb : Nat.beq l' l with
      | false => rw [hb] at he; cases he
      | true =>
        rw [hb] at he
        simp only [cond_true, Option.some.injEq, Prod.mk.injEq] at he
        obtain ⟨rfl, rfl⟩ := he
        have := Nat.eq_of_beq_eq_true hb
        refine ⟨.skip, by simp [findLabel, this], ?_⟩
        intro J a w b k cs hb hrn hh ha
        exact ⟨J, a, w, Post.refl hh, ha, rfl, .one stepR_skip⟩
  | cond c x y ihx ihy =>
    intro ic h
    simp only [codeC, Option.bind_eq_bind, Option.bind_eq_some_iff, Option.some.injEq] at h
    obtain ⟨c', hc, x', hx, y', hy, rfl⟩ := h
    refine ⟨?_, none_lsim fun l s => rfl⟩
    intro s ex s' he J a w b k cs hb hrn hh ha
    have hcv := ev_sim ha.env hh hc
    simp only [evCode] at he
    split at he
    · rename_i hev
      rw [hev] at hcv
      simp only [VR] at hcv
      exact ((ihx x' hx).1 s ex s' he J a w b k cs hb hrn hh ha).of_steps (.one (stepR_cond hcv))
    · rename_i hev
      rw [hev] at hcv
      simp only [VR] at hcv
      exact ((ihy y' hy).1 s ex s' he J a w b k cs hb hrn hh ha).of_steps (.one (stepR_cond hcv))
    · cases he
  | block id x ihx =>
    intro ic h
    simp only [codeC, Option.bind_eq_bind, Option.bind_eq_some_iff, Option.some.injEq] at h
    obtain ⟨x', hx, rfl⟩ := h
    refine ⟨?_, none_lsim fun l s => rfl⟩
    intro s ex s' he J a w b k cs hb hrn hh ha
    simp only [evCode] at he
    cases hf : evCode T K n fn x' none s with
    | none => rw [hf] at he; cases he
    | some r =>
      obtain ⟨ex1, s1⟩ := r
      rw [hf] at he
      obtain ⟨J1, a1, w1, hp, ha1, hr, hg⟩ := (ihx x' hx).1 s ex1 s1 hf J a w b (.inBlock id :: k) cs hb hrn hh ha
      refine Sim.of_steps (.one stepR_block) ?_
      cases ex1 with
      | norm =>
        simp only [Option.some.injEq, Prod.mk.injEq] at he
        obtain ⟨rfl, rfl⟩ := he
        exact ⟨J1, a1, w1, hp, ha1, hr, Steps.trans hg (.one stepR_inBlock)⟩
      | exit id' =>
        simp only at he
        cases hid : Nat.beq id' id with
        | true =>
          rw [hid] at he
          simp only [cond_true, Option.some.injEq, Prod.mk.injEq] at he
          obtain ⟨rfl, rfl⟩ := he
          have := Nat.eq_of_beq_eq_true hid
          subst this
          obtain ⟨k2, e, hs⟩ := hg
          have e2 : exitTo id' k2 = some k := by rw [e]; simp [exitTo]
          exact ⟨J1, a1, w1, hp, ha1, hr, Steps.trans hs (.one (stepR_exit e2))⟩
        | false =>
          rw [hid] at he
          simp only [cond_false, Option.some.injEq, Prod.mk.injEq] at he
          obtain ⟨rfl, rfl⟩ := he
          have hne := Nat.ne_of_beq_eq_false hid
          refine ⟨J1, a1, w1, hp, ha1, hr, hg.pass (by simp) (fun i h => ?_) (fun l h => by cases h)⟩
          cases h
          have : (id == id') = false := by simp; exact fun h => hne h.symm
          simp [exitTo, this]
      | goto l =>
        simp only [Option.some.injEq, Prod.mk.injEq] at he
        obtain ⟨rfl, rfl⟩ := he
        exact ⟨J1, a1, w1, hp, ha1, hr, hg.pass (by simp) (fun i h => by cases h) (fun l h => rfl)⟩
      | ret =>
        simp only [Option.some.injEq, Prod.mk.injEq] at he
        obtain ⟨rfl, rfl⟩ := he
        exact ⟨J1, a1, w1, hp, ha1, hr, hg.pass (by simp) (fun i h => by cases h) (fun l h => by cases h)⟩
  | loop x ihx =>
    intro ic h
    simp only [codeC, Option.bind_eq_bind, Option.bind_eq_some_iff, Option.some.injEq] at h
    obtain ⟨x', hx, rfl⟩ := h
    refine ⟨?_, none_lsim fun l s => rfl⟩
    intro s ex s' he J a w b k cs hb hrn hh ha
    simp only [evCode] at he
    exact (iter_sim (ihx x' hx).1 n s ex s' he J a w b k cs hb hrn hh ha).of_steps (.one stepR_loop)
  | rangeFunc f ps x y _ _ =>
    intro ic h
    simp only [codeC, Option.bind_eq_bind, Option.bind_eq_some_iff, Option.some.injEq] at h
    obtain ⟨f', hf, x', hx, y', hy, rfl⟩ := h
    refine ⟨?_, none_lsim fun l s => rfl⟩
    exact rf_sim hT hK hf hx hy
  | exit id =>
    intro ic h
    simp only [codeC, Option.some.injEq] at h; subst h
    refine ⟨?_, none_lsim fun l s => rfl⟩
    intro s ex s' he J a w b k cs hb hrn hh ha
    simp only [evCode, Option.some.injEq, Prod.mk.injEq] at he
    obtain ⟨rfl, rfl⟩ := he
    exact ⟨J, a, w, Post.refl hh, ha, rfl, k, rfl, .refl P _⟩
  | scope x ihx =>
    intro ic h
    simp only [codeC, Option.bind_eq_bind, Option.bind_eq_some_iff, Option.some.injEq] at h
    obtain ⟨x', hx, rfl⟩ := h
    refine ⟨?_, none_lsim fun l s => rfl⟩
    intro s ex s' he J a w b k cs hb hrn hh ha
    simp only [evCode] at he
    obtain ⟨c', hc', hs⟩ := scp_sim (ihx x' hx).1 (ihx x' hx).2 (hasL_label x x' hx) n none s ex s' he J a w b k cs hb hrn hh ha
    simp only at hc'
    subst hc'
    exact hs.of_steps (.one stepR_scope)
  | goto l =>
    intro ic h
    simp only [codeC, Option.some.injEq] at h; subst h
    refine ⟨?_, none_lsim fun l s => rfl⟩
    intro s ex s' he J a w b k cs hb hrn hh ha
    simp only [evCode, Option.some.injEq, Prod.mk.injEq] at he
    obtain ⟨rfl, rfl⟩ := he
    exact ⟨J, a, w, Post.refl hh, ha, rfl, k, rfl, .refl P _⟩
  | ret =>
    intro ic h
    simp only [codeC, Option.some.injEq] at h; subst h
    refine ⟨?_, none_lsim fun l s => rfl⟩
    intro s ex s' he J a w b k cs hb hrn hh ha
    simp only [evCode, Option.some.injEq, Prod.mk.injEq] at he
    obtain ⟨rfl, rfl⟩ := he
    exact ⟨J, a, w, Post.refl hh, ha, rfl, k, .refl P _⟩
  | refuse why =>
    intro ic h
    simp only [codeC, Option.some.injEq] at h; subst h
    refine ⟨?_, none_lsim fun l s => rfl⟩
    intro s ex s' he
    simp [evCode, evOps, want, evStep, evOp] at he
end
end Go.Ae
/- Calls of functions; rounds; all depths. -/
namespace Go.Ae
open Go
section
variable {P : Program} {mid : String → Option Nat} {T : Tab} {K : Kont}

/-! ### the deferred calls of a frame -/
theorem step_collected {fr : Frame} {cs : List Frame} {w w1 : World} {r : Nat} {args : Array Value} {ds : List Deferred} (hm : fr.mode ≠ .run) (hd : fr.defers = { target := .collected r, args } :: ds) (h : (Instr.takeDeferred r).run P w = .ok [] w1) :
    step P (lone fr cs w) = .next (lone { fr with defers := ds } cs w1) := by
  refine step_lone_go ?_
  cases hmode : fr.mode with
  | run => exact absurd hmode hm
  | returning => simp [stepG, unwind, hmode, hd, Sem.runT_eq, h]
  | panicking chain => simp [stepG, unwind, hmode, hd, Sem.runT_eq, h]

theorem unw_sim (hT : TOK P mid T) (hK : KOk P mid T K) : ∀ (ds : List ADef) (A A' : AW), unw K ds A = some A' → ∀ J w (ds' : List Deferred) (fr : Frame) cs, HR P mid J A w → DRs J ds ds' → fr.mode = .returning → fr.defers = ds' →
    ∃ J' w', Post P mid J A w J' A' w' ∧ Steps P (lone fr cs w) (lone { fr with defers := [] } cs w') := by
  intro ds
  induction ds with
  | nil =>
    intro A A' he J w ds' fr cs h hd hm hf
    simp only [unw, Option.some.injEq] at he; subst he
    simp only [DRs] at hd; subst hd
    refine ⟨J, w, Post.refl h, ?_⟩
    rw [show ({ fr with defers := [] } : Frame) = fr by rw [← hf]]
    exact .refl P _
  | cons x ds ih =>
    intro A A' he J w ds' fr cs h hd hm hf
    simp only [DRs] at hd
    obtain ⟨d, rest, rfl, hx, hds⟩ := hd
    cases x with
    | coll r =>
      obtain ⟨r', rfl, hr⟩ := hx
      simp only [unw] at he
      split at he
      · rename_i hg
        obtain ⟨b, c, hb, hc, hor⟩ := h.obj r _ hg
        rw [hr] at hb; cases hb
        simp only [OR, if_true] at hor
        subst hor
        have hp := post_upd (P := P) (mid := mid) h (o1 := .dfr false) (c1 := .deferred none) hg rfl hr rfl (by intro cs e fr h; cases h) (by intro cs e h; cases h)
        have hrun : (Instr.takeDeferred r').run P w = .ok [] (putB w r' (.deferred none)) := by
          have h1 := run_getObj' (P := P) hc (by intro cs e fr h; cases h)
          have h2 := run_setObj' (P := P) (o' := .deferred none) hc (by intro cs e fr h; cases h)
          simp [Instr.takeDeferred, h1, h2]
        obtain ⟨J', w', hp2, hs⟩ := ih _ A' he J _ rest { fr with defers := rest } cs hp.hr hds hm rfl
        exact ⟨J', w', hp.trans hp2, .head (step_collected (by rw [hm]; simp) hf hrun) hs⟩
      · cases he
    | call f args =>
      obtain ⟨caps, args', rfl, hv⟩ := hx
      simp only [unw] at he
      split at he
      · rename_i v A1 hcall
        obtain ⟨F, hF⟩ := hK.fn _ _ _ _ hcall
        obtain ⟨fn, hfn, hn, hb⟩ := hT.enters hF
        obtain ⟨J1, w1, v', hp, _, tmps, todo, fn2, hfn2, hres, hs⟩ := hK.call _ _ _ _ _ hcall J w (args' ++ caps) h hv .deferred ({ fr with defers := rest } :: cs) (.inr rfl)
        have hinv : (invoke (.fn (.func f) caps) args').run P w = .ok (.enter f (args' ++ caps)) w := by
          simp only [invoke]; exact callFunc_enter hfn hn hb _ w
        have h1 := step_defer (P := P) (fr := fr) (cs := cs) (w := w) (by rw [hm]; simp) hf rfl hinv
        have h2 := step_going_returned (P := P) (fr := { fn := f, tmps, todo, defers := [], mode := .returning, kind := .deferred }) (c := { fr with defers := rest }) (cs := cs) (w := w1) (v := v') rfl ⟨rfl, rfl, fn2, hfn2, hres⟩
        have hset : ({ { fr with defers := rest } with mode := settle ({ fr with defers := rest } : Frame).mode } : Frame) = { fr with defers := rest } := by
          simp only [hm, settle]
        rw [hset] at h2
        obtain ⟨J', w', hp2, hs2⟩ := ih _ A' he J1 w1 rest { fr with defers := rest } cs hp.hr (hds.mono hp.le) hm rfl
        exact ⟨J', w', hp.trans hp2, .head h1 (hs.trans (.head h2 hs2))⟩
      · cases he

/-! ### what a function answers -/
def resF (tmps : Array Value) : ResultVar → Sem Value
  | .tmp t => pure (tmps.getD t undef)
  | .cell a t => do loadVar t (← asAddr (tmps.getD a undef))

theorem results_eq (fn : Func) (tmps : Array Value) : results fn tmps = (do
    let vs ← fn.results.mapM (resF tmps)
    pure (if h : vs.size = 1 then vs[0] else .tuple vs)) := rfl

theorem resA_sim {J : KW} {A : AW} {w : World} (h : HR P mid J A w) {env : List AV} {tmps : Array Value} (hE : VRs J env tmps.toList) :
    ∀ (rs : List ResultVar) (R : List RV) (vs : List AV), resCs P rs = some R → resA A env R = some vs → ∃ us, VRs J vs us ∧ (rs.mapM (resF tmps)).run P w = .ok us w := by
  have getD_sim : ∀ t, VR J (env.getD t und) (tmps.getD t undef) := by
    intro t
    rw [List.getD_eq_getElem?_getD]
    cases ht : env[t]? with
    | some v =>
      obtain ⟨v', e1, e2⟩ := hE.get ht
      have : tmps[t]? = some v' := by simpa using e1
      rw [Array.getD_eq_getD_getElem?, this]; exact e2
    | none =>
      have hl := hE.length
      have : tmps[t]? = none := by
        rw [List.getElem?_eq_none_iff] at ht
        simp at hl ⊢; omega
      rw [Array.getD_eq_getD_getElem?, this]; exact VR.und J
  intro rs
  induction rs with
  | nil =>
    intro R vs hR hv
    simp only [resCs, Option.some.injEq] at hR; subst hR
    simp only [resA, Option.some.injEq] at hv; subst hv
    exact ⟨[], by simp [VRs], by simp⟩
  | cons r rs ih =>
    intro R vs hR hv
    simp only [resCs, Option.bind_eq_bind, Option.bind_eq_some_iff, Option.some.injEq] at hR
    obtain ⟨x, hx, xs, hxs, rfl⟩ := hR
    simp only [resA] at hv
    split at hv
    · rename_i v hv1
      split at hv
      · rename_i vs' hv2
        simp only [Option.some.injEq] at hv; subst hv
        obtain ⟨us, hus, hrun⟩ := ih xs vs' hxs hv2
        have head : ∃ v', VR J v v' ∧ (resF tmps r).run P w = .ok v' w := by
          cases r with
          | tmp t =>
            simp only [resC, Option.some.injEq] at hx; subst hx
            simp only [Option.some.injEq] at hv1; subst hv1
            exact ⟨_, getD_sim t, rfl⟩
          | cell a t =>
            have hga := getD_sim a
            simp only [resC, Option.bind_eq_bind, Option.bind_eq_some_iff] at hx
            obtain ⟨g, hg, hx⟩ := hx
            cases g with
            | false =>
              simp only [Bool.false_eq_true, if_false, Option.some.injEq] at hx; subst hx
              simp only at hv1
              split at hv1
              · rename_i b o hp
                rw [hp] at hga
                simp only [VR] at hga
                obtain ⟨b', e1, hb⟩ := hga
                obtain ⟨v', e2, e3⟩ := rd1_sim h hv1 hb
                refine ⟨v', e3, ?_⟩
                simp [resF, e1, asAddr, loadVar, aggC_run hg, e2]
              · cases hv1
            | true =>
              simp only [if_true, Option.bind_eq_some_iff, Option.some.injEq] at hx
              obtain ⟨n, hn, rfl⟩ := hx
              simp only at hv1
              split at hv1
              · rename_i b o hp
                rw [hp] at hga
                simp only [VR] at hga
                obtain ⟨b', e1, hb⟩ := hga
                simp only [Option.map_eq_some_iff] at hv1
                obtain ⟨l, hl, rfl⟩ := hv1
                obtain ⟨vs2, e2, _, e3, _⟩ := rd_sim h hl hb
                refine ⟨.agg vs2.toArray, by simp only [VR]; exact ⟨_, rfl, by simpa using e2⟩, ?_⟩
                simp [resF, e1, asAddr, loadVar, aggC_run hg, szC_run hn, e3]
              · cases hv1
        obtain ⟨v', hv', hrun1⟩ := head
        refine ⟨v' :: us, VRs.cons hv' hus, ?_⟩
        rw [List.mapM_cons, Sem.run_bind, hrun1, Result.andThen_ok, Sem.run_bind, hrun]
        rfl
      · cases hv
    · cases hv

theorem pack_sim {J : KW} {vs : List AV} {us : List Value} (h : VRs J vs us) : VR J (packR vs) (if h : us.toArray.size = 1 then us.toArray[0] else .tuple us.toArray) := by
  cases vs with
  | nil =>
    simp only [VRs] at h; subst h
    simp [packR, VR, VRs]
  | cons v vs =>
    cases vs with
    | nil =>
      simp only [VRs] at h
      obtain ⟨u, _, rfl, hv, rfl⟩ := h
      simpa [packR] using hv
    | cons v2 vs =>
      have hl := h.length
      have hne : ¬ us.toArray.size = 1 := by simp at hl ⊢; omega
      rw [dif_neg hne]
      simp only [packR, VR]
      exact ⟨_, rfl, h⟩

theorem fun_sim (hT : TOK P mid T) (hK : KOk P mid T K) (hD : DrawSim P mid T K) (n : Nat) {f : Nat} {args : List AV} {A A' : AW} {v : AV} (he : evFun T K n f args A = some (v, A')) {J : KW} {w : World} {args' : Array Value} (h : HR P mid J A w) (ha : VRs J args args'.toList)
    (kd : CallKind) (cs : List Frame) :
    ∃ J' w' v', Post P mid J A w J' A' w' ∧ VR J' v v' ∧ Returns P f args' w w' v' kd cs := by
  unfold evFun at he
  split at he
  · rename_i F hF
    obtain ⟨fn, hfn, hnm, hfc⟩ := hT.fns f F hF
    unfold funC at hfc
    simp only [Option.bind_eq_bind, Option.bind_eq_some_iff, Option.some.injEq] at hfc
    obtain ⟨c, hb, rs, hrs, ic, hic, rfl⟩ := hfc
    split at he
    · rename_i ex s hs
      split at he
      · rename_i hex
        split at he
        · rename_i A1 hu
          split at he
          · rename_i vs hvs
            simp only [Option.some.injEq, Prod.mk.injEq] at he
            obtain ⟨rfl, rfl⟩ := he
            have hlen := ha.length
            have hE0 : VRs J (args ++ List.replicate (fn.ntmps - args.length) und) (args' ++ Array.replicate (fn.ntmps - args'.size) undef).toList := by
              rw [Array.toList_append, Array.toList_replicate]
              have hl2 : args.length = args'.size := by simpa using hlen
              rw [hl2]; exact ha.append (VRs.replicate (VR.und J) _)
            let b : Frame := { fn := f, tmps := #[], todo := [], defers := [], mode := .run, kind := kd }
            have henter : Frame.enter P f args' kd = b.atR { tmps := args' ++ Array.replicate (fn.ntmps - args'.size) undef, defers := [] } [.code c] := by
              simp [Frame.enter, Frame.atR, hfn, hb, b]
            obtain ⟨J1, a1, w1, hp, har, hr, hg⟩ := (code_sim hT hK hD n f c ic hic).1 _ ex s hs J { tmps := args' ++ Array.replicate (fn.ntmps - args'.size) undef, defers := [] } w b [] cs rfl rfl h ⟨hE0, rfl⟩
            rw [← henter] at hg
            have key : ∃ todo, Steps P (lone (Frame.enter P f args' kd) cs w) (lone { fn := f, tmps := a1.tmps, todo, defers := a1.defers, mode := .returning, kind := kd } cs w1) := by
              cases ex with
              | norm => exact ⟨_, Steps.trans hg (.one (stepR_end rfl))⟩
              | ret =>
                obtain ⟨k2, hs⟩ := hg
                exact ⟨_, Steps.trans hs (.one (stepR_ret rfl))⟩
              | exit id => cases hex
              | goto l => cases hex
            obtain ⟨todo, hst⟩ := key
            obtain ⟨J2, w2, hp2, hs2⟩ := unw_sim hT hK s.dfs s.A A1 hu J1 w1 a1.defers { fn := f, tmps := a1.tmps, todo, defers := a1.defers, mode := .returning, kind := kd } cs hp.hr har.dfs rfl rfl
            obtain ⟨us, hus, hrun⟩ := resA_sim hp2.hr (VRs.mono hp2.le _ _ har.env) fn.results.toList rs vs hrs hvs
            refine ⟨J2, w2, _, hp.trans hp2, pack_sim hus, a1.tmps, todo, fn, hfn, ?_, hst.trans hs2⟩
            rw [results_eq, Sem.run_bind, Array.mapM_eq_mapM_toList, ← bind_pure_comp, Sem.run_bind, hrun]
            rfl
          · cases he
        · cases he
      · cases he
    · cases he
  · cases he

theorem foldl_sim {J : KW} : ∀ (ps : List Nat) (xs : List AV) (vs : List Value) (env : List AV) (tmps : Array Value), VRs J xs vs → VRs J env tmps.toList →
    VRs J ((ps.zip xs).foldl (fun e (t, a) => e.set t a) env) ((ps.zip vs).foldl (fun (tm : Array Value) (t, a) => tm.setIfInBounds t a) tmps).toList := by
  intro ps
  induction ps with
  | nil => intro xs vs env tmps _ h; exact h
  | cons p ps ih =>
    intro xs vs env tmps hx h
    cases xs with
    | nil => simp only [VRs] at hx; subst hx; exact h
    | cons x xs =>
      simp only [VRs] at hx
      obtain ⟨v, vs', rfl, h1, h2⟩ := hx
      simp only [List.zip_cons_cons, List.foldl_cons]
      refine ih xs vs' _ _ h2 ?_
      rw [Array.toList_setIfInBounds]
      exact h.set p h1

theorem rnd_sim (hT : TOK P mid T) (hK : KOk P mid T K) (hD : DrawSim P mid T K) (n : Nat) {l : Nat} {args : List AV} {A A' : AW} {v : AV} (he : evRnd T K n l args A = some (v, A')) {J : KW} {w : World} {l' : Nat} {args' : Array Value} (h : HR P mid J A w) (hl : J.ι l = some l') (ha : VRs J args args'.toList)
    (c : Frame) (cs : List Frame) :
    ∃ J' w' v', Post P mid J A w J' A' w' ∧ VR J' v v' ∧ Rounds P l' args' w w' v' c cs := by
  unfold evRnd at he
  split at he
  · rename_i st0 pd0 fn env ps asg body dfd0 hg
    obtain ⟨r, hrh, hgl, hst, hpd, hfn, hE, hps, hasg, hbody, hdf⟩ := h.loop hg hl
    cases hln : Nat.beq args.length ps.length with
    | false => rw [hln] at he; cases he
    | true =>
      rw [hln] at he
      simp only [cond_true] at he
      have hln := Nat.eq_of_beq_eq_true hln
      split at he
      · rename_i s hs
        split at he
        · rename_i pd1 fn1 env1 ps1 asg1 body1 dfd1 hg1
          split at he
          · rename_i ex s' hs'
            split at he
            · rename_i st2 pd2 fn2 env2 ps2 asg2 body2 dfd2 hg2
              simp only [Option.some.injEq, Prod.mk.injEq] at he
              obtain ⟨rfl, rfl⟩ := he
              have hsz : args'.size = r.params.size := by
                have h1 := ha.length
                have h2 := congrArg List.length hps
                simp at h1 h2; omega
              have hyield : (Instr.yield l' args').run P w = .ok (.round l' r.fn ((r.params.zip args').foldl (fun tmps (t, a) => tmps.setIfInBounds t a) r.tmps) r.assign r.body) w := by
                simp [Instr.yield, hgl, hsz]
              let tm := (r.params.zip args').foldl (fun tmps (t, a) => tmps.setIfInBounds t a) r.tmps
              have htm : VRs J ((ps.zip args).foldl (fun e (t, a) => e.set t a) env) tm.toList := by
                have := foldl_sim (J := J) ps args args'.toList env r.tmps ha hE
                rw [← hps] at this ⊢
                have e : tm = (r.params.toList.zip args'.toList).foldl (fun (tm : Array Value) (t, a) => tm.setIfInBounds t a) r.tmps := by
                  simp only [tm]
                  rw [← Array.foldl_toList, Array.toList_zip]
                rw [e]; exact this
              let b : Frame := { fn := r.fn, tmps := #[], todo := [], defers := [], mode := .run, kind := .normal, roundOf := some l' }
              have hb0 : Frame.round l' r.fn tm r.assign r.body .normal = b.atR { tmps := tm, defers := [] } [.code r.assign, .beginRound, .code r.body] := rfl
              obtain ⟨J1, a1, w1, hp1, har1, hr1, hg1'⟩ := (code_sim hT hK hD n fn r.assign asg hasg).1 _ .norm s hs J { tmps := tm, defers := [] } w b [.beginRound, .code r.body] (c :: cs) hfn ⟨l', rfl, hl⟩ h ⟨htm, rfl⟩
              have hl1 := (hp1.le _ _ hl).1
              obtain ⟨r1, hrh1, hgl1, hst1, hpd1, hrest1⟩ := hp1.hr.loop hg1 hl1
              obtain ⟨hset1, hp2⟩ := post_loop hp1.hr hg1 hl1 hrh1 .busy pd1 hrest1
              have hbegin : (Instr.beginRound l').run P w1 = .ok () (putB w1 l' (.loop { r1 with state := .busy, pending := pd1.map jcode })) := by
                have hup : ({ r1 with state := .busy } : Loop) = { r1 with state := .busy, pending := pd1.map jcode } := by rw [← hpd1]
                simp only [Instr.beginRound, Sem.run_bind, hgl1, Result.andThen_ok]
                rw [hup, hset1]
                simp [hst1]
              have hs1 : Steps P (lone (b.atR { tmps := tm, defers := [] } [.code r.assign, .beginRound, .code r.body]) (c :: cs) w) (lone (b.atR a1 [.code r.body]) (c :: cs) (putB w1 l' (.loop { r1 with state := .busy, pending := pd1.map jcode }))) :=
                Steps.trans hg1' (.one (stepR_beginRound rfl hbegin))
              obtain ⟨J3, a3, w3, hp3, har3, hr3, hg3⟩ := (code_sim hT hK hD n fn r.body body hbody).1 { s with A := s.A.set l (.loop .busy pd1 fn1 env1 ps1 asg1 body1 dfd1) } ex s' hs' J1 a1 _ b [] (c :: cs) hfn (by rw [hr1]; exact ⟨l', rfl, hl1⟩) hp2.hr ⟨har1.env, har1.dfs⟩
              have hl3 := (hp3.le _ _ hl1).1
              obtain ⟨r3, hrh3, hgl3, hst3, hpd3, hrest3⟩ := hp3.hr.loop hg2 hl3
              have hpost := post_loop hp3.hr hg2 hl3 hrh3 (bif (jumpOf ex).isNone then .ready else .done) (jumpOf ex) hrest3
              obtain ⟨hset3, hp4⟩ := hpost
              have hend : ∀ jc : Option Code, jc = (jumpOf ex).map jcode → (Instr.endRound l' jc).run P w3 = .ok (.bool (jumpOf ex).isNone) (putB w3 l' (.loop { r3 with state := (bif (jumpOf ex).isNone then .ready else .done), pending := (jumpOf ex).map jcode })) := by
                intro jc hjc
                have hn : jc.isNone = (jumpOf ex).isNone := by rw [hjc]; simp
                have hst : (if jc.isNone = true then LoopState.ready else LoopState.done) = (bif (jumpOf ex).isNone then LoopState.ready else LoopState.done) := by
                  rw [hn]; cases (jumpOf ex).isNone <;> rfl
                simp only [Instr.endRound, Sem.run_bind, hgl3, Result.andThen_ok]
                rw [hst, hn, hjc, hset3]
                simp
              refine ⟨J3, _, .bool (jumpOf ex).isNone, ((hp1.trans hp2).trans hp3).trans hp4, by simp [VR], r.fn, tm, r.assign, r.body, hyield, ?_⟩
              rw [hb0]
              refine hs1.trans ?_
              cases ex with
              | norm => exact Steps.trans hg3 (.one (stepR_round_end rfl rfl (hend none rfl)))
              | ret =>
                obtain ⟨k2, hs⟩ := hg3
                exact Steps.trans hs (.one (stepR_round_ret rfl rfl (hend (some .ret) rfl)))
              | exit id =>
                obtain ⟨k2, e, hs⟩ := hg3
                exact Steps.trans hs (.one (stepR_round_exit rfl rfl e (hend (some (.exit id)) rfl)))
              | goto lb =>
                obtain ⟨k2, e, hs⟩ := hg3
                exact Steps.trans hs (.one (stepR_round_goto rfl rfl e (hend (some (.goto lb)) rfl)))
            · cases he
          · cases he
        · cases he
      · cases he
  · cases he

theorem kont_ok (hT : TOK P mid T) (hD : ∀ K, KOk P mid T K → DrawSim P mid T K) : ∀ n, KOk P mid T (kont T n) := by
  intro n
  induction n with
  | zero => exact ⟨fun f args A r h => (by cases h), fun f args A v A' h => (by cases h), fun f args A v A' h => (by cases h)⟩
  | succ n ih =>
    refine ⟨?_, ?_, ?_⟩
    · intro f args A r h
      simp only [kont] at h
      unfold evFun at h
      split at h
      · rename_i F hF; exact ⟨F, hF⟩
      · cases h
    · intro f args A v A' h J w args' hh ha kd cs _
      exact fun_sim hT ih (hD _ ih) n h hh ha kd cs
    · intro l args A v A' h J w l' args' hh hl ha c cs
      exact rnd_sim hT ih (hD _ ih) n h hh hl ha c cs
end
end Go.Ae
/- Regions whose order is drawn: what operations look at; classes. -/
namespace Go.Ae
open Go

theorem getD_of {env env' : List AV} {t : Nat} (h : env[t]? = env'[t]?) : env.getD t und = env'.getD t und := by
  rw [List.getD_eq_getElem?_getD, List.getD_eq_getElem?_getD, h]

theorem ev_congr {env env' : List AV} {x : Opd} (h : ∀ t ∈ x.tmp, env[t]? = env'[t]?) : ev env x = ev env' x := by
  cases x with
  | t n => exact getD_of (h n (by simp [Opd.tmp]))
  | _ => rfl

theorem map_congr' {env env' : List AV} {l : List Opd} (h : ∀ t ∈ tmpsL l, env[t]? = env'[t]?) : l.map (ev env) = l.map (ev env') := by
  apply List.map_congr_left
  intro x hx
  exact ev_congr fun t ht => h t (by simp only [tmpsL, List.mem_flatMap]; exact ⟨x, hx, ht⟩)

theorem parts_congr {env env' : List AV} {ps : List (Nat × Nat × Opd)} (h : ∀ t ∈ tmpsL (ps.map (·.2.2)), env[t]? = env'[t]?) : (ps.map fun (o, n, x) => (o, n, ev env x)) = ps.map fun (o, n, x) => (o, n, ev env' x) := by
  apply List.map_congr_left
  intro p hp
  obtain ⟨o, n, x⟩ := p
  have := ev_congr (x := x) (env := env) (env' := env') fun t ht => h t (by
    simp only [tmpsL, List.mem_flatMap, List.mem_map]
    exact ⟨x, ⟨_, hp, rfl⟩, ht⟩)
  simp only [this]

theorem bnd_congr {env env' : List AV} {x : Option Opd} (h : ∀ t ∈ tmpsO x, env[t]? = env'[t]?) (d m : Nat) : bnd env x d m = bnd env' x d m := by
  cases x with
  | none => rfl
  | some x => simp only [bnd, ev_congr (x := x) h]

theorem want_congr {env env' : List AV} {g : Option (Nat × Bool)} (h : ∀ t ∈ (g.map (·.1)).toList, env[t]? = env'[t]?) : want env g = want env' g := by
  cases g with
  | none => rfl
  | some p => obtain ⟨t, b⟩ := p; simp only [want, h t (by simp)]

theorem evNew_congr {env env' : List AV} {o : IOp} (h : ∀ t ∈ o.tmps, env[t]? = env'[t]?) : evNew env o = evNew env' o := by
  cases o with
  | box e n x => simp only [evNew, ev_congr (x := x) h]
  | buildS e es len z ps => simp only [evNew]; rw [parts_congr (ps := ps) h]
  | mkS e es by_ z n c =>
    have h1 := ev_congr (x := n) fun t ht => h t (by simp [IOp.tmps, ht])
    have h2 := ev_congr (x := c) fun t ht => h t (by simp [IOp.tmps, ht])
    simp only [evNew, h1, h2]
  | cvSB e x => simp only [evNew, ev_congr (x := x) h]
  | rngS x => simp only [evNew, ev_congr (x := x) h]
  | _ => rfl

theorem evOp_congr (T : Tab) {env env' : List AV} (A : AW) {o : IOp} (h : ∀ t ∈ o.tmps, env[t]? = env'[t]?) : evOp T env A o = evOp T env' A o := by
  cases o with
  | mv x => simp only [evOp, ev_congr (x := x) h]
  | pick c x y =>
    have h1 := ev_congr (x := c) fun t ht => h t (by simp [IOp.tmps, ht])
    have h2 := ev_congr (x := x) fun t ht => h t (by simp [IOp.tmps, ht])
    have h3 := ev_congr (x := y) fun t ht => h t (by simp [IOp.tmps, ht])
    simp only [evOp, h1, h2, h3]
  | alloc e z => rfl
  | box e n x => simp only [evOp]; rw [evNew_congr h]
  | build z ps => simp only [evOp]; rw [parts_congr (ps := ps) h]
  | buildS e es len z ps => simp only [evOp]; rw [evNew_congr h]
  | ld x => simp only [evOp, ev_congr (x := x) h]
  | ldN n x => simp only [evOp, ev_congr (x := x) h]
  | nilc x => simp only [evOp, ev_congr (x := x) h]
  | un _ x => simp only [evOp, ev_congr (x := x) h]
  | cvI _ x => simp only [evOp, ev_congr (x := x) h]
  | cvF _ x => simp only [evOp, ev_congr (x := x) h]
  | cvBS x => simp only [evOp, ev_congr (x := x) h]
  | cvIS x => simp only [evOp, ev_congr (x := x) h]
  | cvSl x => simp only [evOp, ev_congr (x := x) h]
  | cvSB e x => simp only [evOp]; rw [evNew_congr h]
  | rngS x => simp only [evOp]; rw [evNew_congr h]
  | mkS e es by_ z n c => simp only [evOp]; rw [evNew_congr h]
  | mkMap => rfl
  | mkI _ x => simp only [evOp, ev_congr (x := x) h]
  | off _ x => simp only [evOp, ev_congr (x := x) h]
  | fld _ x => simp only [evOp, ev_congr (x := x) h]
  | fldN _ _ x => simp only [evOp, ev_congr (x := x) h]
  | nxtS x => simp only [evOp, ev_congr (x := x) h]
  | ta _ _ _ x => simp only [evOp, ev_congr (x := x) h]
  | ext x _ => simp only [evOp, ev_congr (x := x) h]
  | s2a _ x => simp only [evOp, ev_congr (x := x) h]
  | len _ x => simp only [evOp, ev_congr (x := x) h]
  | lenC _ x => rfl
  | cap x => rfl
  | pan x => rfl
  | cvPU x => rfl
  | cvUP t n x => rfl
  | mkF fn l r =>
    have h1 := map_congr' (l := l) fun t ht => h t (by simp [IOp.tmps, ht])
    have h2 := map_congr' (l := r) fun t ht => h t (by simp [IOp.tmps, ht])
    simp only [evOp, h1, h2]
  | slStr x lo hi =>
    have h1 := ev_congr (x := x) fun t ht => h t (by simp [IOp.tmps, ht])
    have h2 := bnd_congr (x := lo) fun t ht => h t (by simp [IOp.tmps, ht])
    have h3 := bnd_congr (x := hi) fun t ht => h t (by simp [IOp.tmps, ht])
    simp only [evOp, h1, h2, h3]
  | slArr _ _ x lo hi =>
    have h1 := ev_congr (x := x) fun t ht => h t (by simp [IOp.tmps, ht])
    have h2 := bnd_congr (x := lo) fun t ht => h t (by simp [IOp.tmps, ht])
    have h3 := bnd_congr (x := hi) fun t ht => h t (by simp [IOp.tmps, ht])
    simp only [evOp, h1, h2, h3]
  | slSl _ x lo hi m3 =>
    have h1 := ev_congr (x := x) fun t ht => h t (by simp [IOp.tmps, ht])
    have h2 := bnd_congr (x := lo) fun t ht => h t (by simp [IOp.tmps, ht])
    have h3 := bnd_congr (x := hi) fun t ht => h t (by simp [IOp.tmps, ht])
    have h4 := bnd_congr (x := m3) fun t ht => h t (by simp [IOp.tmps, ht])
    simp only [evOp, h1, h2, h3, h4]
  | mup _ x y z =>
    have h1 := ev_congr (x := x) fun t ht => h t (by simp [IOp.tmps, ht])
    have h2 := ev_congr (x := y) fun t ht => h t (by simp [IOp.tmps, ht])
    have h3 := ev_congr (x := z) fun t ht => h t (by simp [IOp.tmps, ht])
    simp only [evOp, h1, h2, h3]
  | mx l => simp only [evOp]; rw [map_congr' (l := l) h]
  | mn l => simp only [evOp]; rw [map_congr' (l := l) h]
  | call _ l => simp only [evOp]; rw [map_congr' (l := l) h]
  | xt _ l => simp only [evOp]; rw [map_congr' (l := l) h]
  | callV f l =>
    have h1 := ev_congr (x := f) fun t ht => h t (by simp [IOp.tmps, ht])
    have h2 := map_congr' (l := l) fun t ht => h t (by simp [IOp.tmps, ht])
    simp only [evOp, h1, h2]
  | inv _ f l =>
    have h1 := ev_congr (x := f) fun t ht => h t (by simp [IOp.tmps, ht])
    have h2 := map_congr' (l := l) fun t ht => h t (by simp [IOp.tmps, ht])
    simp only [evOp, h1, h2]
  | dfr f l =>
    have h1 := ev_congr (x := f) fun t ht => h t (by simp [IOp.tmps, ht])
    have h2 := map_congr' (l := l) fun t ht => h t (by simp [IOp.tmps, ht])
    simp only [evOp, h1, h2]
  | rcv => rfl
  | bad => rfl
  | st _ x y | bin _ x y | eqP _ _ x y | eqB _ x y | eqA _ _ x y | ixS _ x y | ixA _ _ x y | iaA _ _ _ x y | ixStr x y | lk _ _ _ x y | del _ x y | apd _ _ _ x y | cpy _ x y =>
    have h1 := ev_congr (x := x) fun t ht => h t (by simp [IOp.tmps, ht])
    have h2 := ev_congr (x := y) fun t ht => h t (by simp [IOp.tmps, ht])
    simp only [evOp, h1, h2]

theorem evStep_congr (T : Tab) (K : Kont) {env env' : List AV} (A : AW) {o : IOp} (h : ∀ t ∈ o.tmps, env[t]? = env'[t]?) : evStep T K env A o = evStep T K env' A o := by
  unfold evStep; rw [evOp_congr T A h]

theorem oV_val {A A' : AW} {r : Option AV} {v : AV} (h : oV A r = .val v A') : r = some v ∧ A' = A := by
  cases r with
  | none => cases h
  | some x => cases h; exact ⟨rfl, rfl⟩

theorem oB_val {A A' : AW} {ne : Bool} {r : Option Bool} {v : AV} (h : oB A ne r = .val v A') : (∀ B, oB B ne r = .val v B) ∧ A' = A := by
  cases r with
  | none => cases h
  | some x => cases h; exact ⟨fun B => rfl, rfl⟩

/-- what does without memory answers the same with any -/
theorem pure_any (T : Tab) {env : List AV} {o : IOp} (hc : cls o = 0) {A A' : AW} {v : AV} (h : evOp T env A o = .val v A') : ∀ B, evOp T env B o = .val v B := by
  intro B
  cases o <;> simp only [cls] at hc <;> (try (exact absurd hc (by decide))) <;> simp only [evOp, Bool.cond_eq_ite] at h ⊢
  all_goals (repeat' (split at h))
  all_goals (first | (cases h; done) | (simp_all; done) | (obtain ⟨h1, h2⟩ := oV_val h; simp_all [oV]; done) | (obtain ⟨h1, h2⟩ := oB_val h; simp_all; done) | skip)

/-- a reader leaves memory as it was -/
theorem reader_same (T : Tab) {env : List AV} {o : IOp} (hc : cls o = 1) {A A' : AW} {v : AV} (h : evOp T env A o = .val v A') : A' = A := by
  cases o <;> simp only [cls] at hc <;> (try (exact absurd hc (by decide))) <;> simp only [evOp, Bool.cond_eq_ite] at h
  all_goals (repeat' (split at h))
  all_goals (first | (cases h; done) | (cases h; rfl) | (obtain ⟨h1, h2⟩ := oV_val h; exact h2) | skip)

theorem eqL_eq {f : AV → AV → Bool} (hf : ∀ x y, f x y = true → x = y) : ∀ {a b : List AV}, AV.eqL f a b = true → a = b := by
  intro a
  induction a with
  | nil => intro b h; cases b with
    | nil => rfl
    | cons _ _ => simp [AV.eqL] at h
  | cons x xs ih => intro b h; cases b with
    | nil => simp [AV.eqL] at h
    | cons y ys =>
      simp only [AV.eqL, Bool.and_eq_true] at h
      rw [hf _ _ h.1, ih h.2]

theorem eqFlat_eq {a b : AV} (h : eqFlat a b = true) : a = b := by
  unfold eqFlat at h
  split at h
  · simp at h; rw [h]
  · simp at h; rw [h.1, h.2]
  · simp at h; rw [h.1, h.2]
  · simp at h; rw [h]
  · simp at h; rw [h]
  · simp at h; obtain ⟨⟨⟨h1, h2⟩, h3⟩, h4⟩ := h; rw [h1, h2, h3, h4]
  · simp at h; rw [h]
  · rfl
  · rfl
  · simp only [Bool.and_eq_true, beq_iff_eq] at h
    obtain ⟨⟨h1, h2⟩, h3⟩ := h
    have hp : ∀ x y : AV, (match x, y with | .ptr p, .ptr q => p == q | _, _ => false) = true → x = y := by
      intro x y hxy
      split at hxy
      · simp at hxy; rw [hxy]
      · cases hxy
    rw [h1, eqL_eq hp h2, eqL_eq hp h3]
  · cases h

theorem eqVal_eq {a b : AV} (h : eqVal a b = true) : a = b := by
  unfold eqVal at h
  split at h
  · rw [eqL_eq (fun x y h => eqFlat_eq h) h]
  · rw [eqL_eq (fun x y h => eqFlat_eq h) h]
  · exact eqFlat_eq h

theorem steady_spec (T : Tab) {hs : List AW} {o : IOp} {env : List AV} {v : AV} : ∀ (n j : Nat), steady T hs o env v n j = true → ∀ k, j ≤ k → k < j + n → ∃ A A', hs[k]? = some A ∧ evOp T env A o = .val v A' := by
  intro n
  induction n with
  | zero => intro j _ k h1 h2; omega
  | succ n ih =>
    intro j h k h1 h2
    simp only [steady, Bool.and_eq_true] at h
    rcases Nat.eq_or_lt_of_le h1 with e | hlt
    · subst e
      have h := h.1
      split at h
      · rename_i A hA
        split at h
        · rename_i w A' hw
          have := eqVal_eq h
          subst this
          exact ⟨A, A', hA, hw⟩
        · cases h
      · cases h
    · exact ih (j + 1) h.2 k hlt (by omega)

/-! ### what stands ahead of what -/
theorem bitsOf_spec (acc : Array Nat) : ∀ (es : List Edge) (j : Nat), (bitsOf acc es).testBit j = true → ∃ e ∈ es, Region.binds .any e = true ∧ (e.on = j ∨ (acc.getD e.on 0).testBit j = true) := by
  intro es
  induction es with
  | nil => intro j h; simp [bitsOf] at h
  | cons e es ih =>
    intro j h
    simp only [bitsOf] at h
    cases hb : Region.binds .any e with
    | false =>
      rw [hb] at h
      obtain ⟨e', he, h1⟩ := ih j h
      exact ⟨e', by simp [he], h1⟩
    | true =>
      rw [hb] at h
      simp only [cond_true, Nat.testBit_or, Bool.or_eq_true] at h
      rcases h with (h | h) | h
      · rw [Nat.testBit_two_pow] at h
        exact ⟨e, by simp, hb, .inl (by simpa using h)⟩
      · exact ⟨e, by simp, hb, .inr h⟩
      · obtain ⟨e', he, h1⟩ := ih j h
        exact ⟨e', by simp [he], h1⟩

theorem befL_size : ∀ (os : List Oper) (acc : Array Nat), (befL acc os).size = acc.size + os.length := by
  intro os
  induction os with
  | nil => intro acc; rfl
  | cons o os ih => intro acc; simp only [befL, ih, Array.size_push, List.length_cons]; omega

theorem befL_old : ∀ (os : List Oper) (acc : Array Nat) (i : Nat), i < acc.size → (befL acc os).getD i 0 = acc.getD i 0 := by
  intro os
  induction os with
  | nil => intro acc i _; rfl
  | cons o os ih =>
    intro acc i hi
    simp only [befL]
    rw [ih _ i (by simp; omega)]
    simp only [Array.getD_eq_getD_getElem?, Array.getElem?_push]
    rw [if_neg (by omega)]

theorem befL_spec : ∀ (os : List Oper) (acc : Array Nat) (i : Nat) (o : Oper), os[i]? = some o → ∀ j, ((befL acc os).getD (acc.size + i) 0).testBit j = true →
    ∃ e ∈ o.after, Region.binds .any e = true ∧ (e.on = j ∨ ((befL acc os).getD e.on 0).testBit j = true) := by
  intro os
  induction os with
  | nil => intro acc i o h; simp at h
  | cons x os ih =>
    intro acc i o h j hj
    cases i with
    | zero =>
      simp only [List.getElem?_cons_zero, Option.some.injEq] at h; subst h
      simp only [befL, Nat.add_zero] at hj ⊢
      rw [befL_old _ _ _ (by simp)] at hj
      simp only [Array.getD_eq_getD_getElem?, Array.getElem?_push, if_true, Option.getD_some] at hj
      obtain ⟨e, he, hb, h1⟩ := bitsOf_spec acc _ j hj
      refine ⟨e, by simpa using he, hb, ?_⟩
      rcases h1 with h1 | h1
      · exact .inl h1
      · right
        have hlt : e.on < acc.size := by
          rcases Nat.lt_or_ge e.on acc.size with h' | h'
          · exact h'
          · rw [Array.getD_eq_getD_getElem?, Array.getElem?_eq_none h'] at h1; simp at h1
        rw [befL_old _ _ _ (by simp; omega)]
        simp only [Array.getD_eq_getD_getElem?, Array.getElem?_push] at h1 ⊢
        rw [if_neg (by omega)]; exact h1
    | succ i =>
      simp only [List.getElem?_cons_succ] at h
      simp only [befL] at hj ⊢
      have := ih (acc.push (bitsOf acc x.after.toList)) i o h j (by rw [Array.size_push, Nat.add_assoc, Nat.add_comm 1 i]; exact hj)
      exact this

/-- whatever is closed under edges is closed under what stands ahead -/
theorem bef_closed {ops : Array Oper} (hback : ∀ (i : Nat) (o : Oper), ops[i]? = some o → ∀ e ∈ o.after, Region.binds .any e = true → e.on < i) (S : Nat → Prop) (hS : ∀ (i : Nat) (o : Oper), S i → ops[i]? = some o → ∀ e ∈ o.after, Region.binds .any e = true → S e.on) :
    ∀ (i : Nat) (o : Oper), ops[i]? = some o → (∀ e ∈ o.after, Region.binds .any e = true → S e.on) → ∀ j, ((befL #[] ops.toList).getD i 0).testBit j = true → S j ∧ j < i := by
  intro i
  induction i using Nat.strongRecOn with
  | _ i ih =>
    intro o ho hd j hj
    obtain ⟨e, he, hb, h1⟩ := befL_spec ops.toList #[] i o (by simpa using ho) j (by simpa using hj)
    have hlt := hback i o ho e he hb
    rcases h1 with h1 | h1
    · subst h1; exact ⟨hd e he hb, hlt⟩
    · have hi : e.on < ops.size := by
        have : i < ops.size := (Array.getElem?_eq_some_iff.1 ho).1
        omega
      have ho2 : ops[e.on]? = some ops[e.on] := by simp [hi]
      have := ih e.on hlt _ ho2 (hS e.on _ (hd e he hb) ho2) j h1
      exact ⟨this.1, by omega⟩

theorem bef_lt {ops : Array Oper} (hback : ∀ (i : Nat) (o : Oper), ops[i]? = some o → ∀ e ∈ o.after, Region.binds .any e = true → e.on < i) {i j : Nat} {o : Oper} (ho : ops[i]? = some o) (hj : ((befL #[] ops.toList).getD i 0).testBit j = true) : j < i :=
  (bef_closed hback (fun _ => True) (fun _ _ _ _ _ _ _ => trivial) i o ho (fun _ _ _ => trivial) j hj).2
end Go.Ae
/- Regions whose order is drawn: memory that is laid but not told of yet. -/
namespace Go.Ae
open Go
section
variable {P : Program} {mid : String → Option Nat} {J0 J J' : KW} {A0 A A' : AW} {w0 w w' : World}

theorem post_reserve (h : HR P mid J A w) (n : Nat) : Post P mid J A w J ⟨A.nx + n, A.tr⟩ w where
  le := KW.le_refl J
  hr := ⟨h.obj, h.inj, fun i b hi => ⟨by have := (h.dom i b hi).1; simp only; omega, (h.dom i b hi).2⟩, h.sig, fun i hi => h.fresh i (by simp only at hi; omega), h.gl⟩
  sz := Nat.le_refl _
  os := rfl
  tape := rfl
  out := rfl
  nx := Nat.le_add_right _ _
  fr := fun _ _ _ => rfl
  foot := fun i o b hi hl hb => .inr ⟨i, o, hi, hl, hb, id⟩
  ro := fun _ _ _ h => h
  dm := fun _ _ h => .inl h

theorem none_get (h : HR P mid J A w) {i : Nat} (hi : J.ι i = none) : A.get i = none := by
  cases hg : A.get i with
  | none => rfl
  | some o => obtain ⟨b, _, hb, _⟩ := h.obj i o hg; rw [hi] at hb; cases hb

theorem post_ghost (hp : Post P mid J0 A0 w0 J A w) {i : Nat} {c : Obj} {dr : Nat} (hi : J.ι i = none) (h0 : A0.nx ≤ i) (h1 : i < A.nx) :
    Post P mid J0 A0 w0 (J.ext i w.heap.size (sizeOf' c)) A { w with heap := w.heap.push c, drawn := dr } := by
  have h := hp.hr
  have hle : KW.le J (J.ext i w.heap.size (sizeOf' c)) := KW.le_ext hi fun j d hj => by have := (h.dom j d hj).2; omega
  have hgi := none_get h hi
  have hne : ∀ j o, A.get j = some o → j ≠ i := by intro j o hj e; subst e; rw [hgi] at hj; cases hj
  have hio : ∀ j o, A.get j = some o → (J.ext i w.heap.size (sizeOf' c)).ι j = J.ι j := by
    intro j o hj; simp only [KW.ext, if_neg (hne j o hj)]
  refine ⟨KW.le_trans hp.le hle, ⟨?_, ?_, ?_, ?_, h.fresh, ?_⟩, ?_, hp.os, hp.tape, hp.out, hp.nx, ?_, ?_, hp.ro, ?_⟩
  · intro j o hj
    obtain ⟨b, d, hb, hd, hor⟩ := h.obj j o hj
    refine ⟨b, d, (hle j b hb).1, ?_, hor.mono hle⟩
    simp only [Array.getElem?_push]
    rw [if_neg (by have := lt_of_get hd; omega)]; exact hd
  · intro j k o o' hj hk hl hl' e
    rw [hio j o hj, hio k o' hk] at e
    exact h.inj j k o o' hj hk hl hl' e
  · intro j b hj
    simp only [KW.ext] at hj
    split at hj
    · rename_i e; subst e; cases hj; exact ⟨h1, by simp⟩
    · have := h.dom j b hj; exact ⟨this.1, by simp; omega⟩
  · intro j b cs e fr hj hc
    simp only [KW.ext] at hj ⊢
    split at hj
    · rename_i e; subst e; cases hj
      simp at hc; subst hc; simp [sizeOf']
    · have := h.dom j b hj
      rw [if_neg (by omega)]
      simp only [Array.getElem?_push] at hc
      rw [if_neg (by omega)] at hc
      exact h.sig j b cs e fr hj hc
  · intro g hg; exact (hle g g (h.gl g hg)).1
  · have := hp.sz; simp; omega
  · intro b hb hno
    simp only [Array.getElem?_push]
    have := hp.sz
    rw [if_neg (by omega)]
    exact hp.fr b hb hno
  · intro j o b hj hl hb
    rw [hio j o hj] at hb
    exact hp.foot j o b hj hl hb
  · intro j b hj
    simp only [KW.ext] at hj
    split at hj
    · rename_i e; subst e; exact .inr h0
    · exact hp.dm j b hj

theorem post_add (hp : Post P mid J0 A0 w0 J A w) {i b : Nat} {o : AObj} {c : Obj} (hi : J.ι i = some b) (hc : w.heap[b]? = some c) (hor : OR P mid J o c) (hb : w0.heap.size ≤ b) (hro : ∀ cs e, o ≠ .cells cs e true)
    (hd : ∀ j o', A.get j = some o' → live o' = true → J.ι j ≠ some b) : Post P mid J0 A0 w0 J (A.set i o) w := by
  have h := hp.hr
  refine ⟨hp.le, ⟨?_, ?_, h.dom, h.sig, ?_, h.gl⟩, hp.sz, hp.os, hp.tape, hp.out, hp.nx, hp.fr, ?_, ?_, hp.dm⟩
  · intro j o' hj
    rw [AW.get_set] at hj
    split at hj
    · rename_i e; subst e; cases hj; exact ⟨b, c, hi, hc, hor⟩
    · exact h.obj j o' hj
  · intro j k o1 o2 hj hk hl1 hl2 e
    rw [AW.get_set] at hj hk
    split at hj <;> split at hk
    · rename_i e1 e2; rw [e1, e2]
    · rename_i e1 e2; subst e1
      exact absurd (e.symm.trans hi) (hd k o2 hk hl2)
    · rename_i e1 e2; subst e2
      exact absurd (e.trans hi) (hd j o1 hj hl1)
    · exact h.inj j k o1 o2 hj hk hl1 hl2 e
  · intro j hj
    rw [AW.get_set]
    split
    · rename_i e; subst e
      have := (h.dom j b hi).1
      simp at hj; omega
    · exact h.fresh j hj
  · intro j o' b' hj hl hb'
    rw [AW.get_set] at hj
    split at hj
    · rename_i e; subst e
      rw [hi] at hb'; cases hb'; exact .inl hb
    · exact hp.foot j o' b' hj hl hb'
  · intro j cs e hj
    rw [AW.get_set] at hj
    split at hj
    · cases hj; exact absurd rfl (hro cs e)
    · exact hp.ro j cs e hj

/-- memory that is laid but not told of yet -/
def Pend (P : Program) (mid : String → Option Nat) (w0 : World) (J : KW) (A : AW) (w : World) (i : Nat) (o : AObj) : Prop :=
  ∃ b c, J.ι i = some b ∧ w.heap[b]? = some c ∧ OR P mid J o c ∧ w0.heap.size ≤ b ∧ (∀ cs e, o ≠ .cells cs e true) ∧ ∀ j o', A.get j = some o' → live o' = true → J.ι j ≠ some b

theorem Pend.step {i : Nat} {o : AObj} (h : Pend P mid w0 J A w i o) (hp : Post P mid J A w J' A' w') : Pend P mid w0 J' A' w' i o := by
  obtain ⟨b, c, hi, hc, hor, hb, hro, hd⟩ := h
  have hlt := lt_of_get hc
  refine ⟨b, c, (hp.le i b hi).1, ?_, hor.mono hp.le, hb, hro, ?_⟩
  · rw [hp.fr b hlt fun j o' hj hm => hd j o' hj (muta_live hm)]; exact hc
  · intro j o' hj hl e
    rcases hp.foot j o' b hj hl e with h1 | ⟨k, o2, hk, hl2, hJ, _⟩
    · omega
    · exact hd k o2 hk hl2 hJ

theorem Pend.ghost {i : Nat} {o : AObj} (h : Pend P mid w0 J A w i o) (hr : HR P mid J A w) {i1 : Nat} {c1 : Obj} {dr : Nat} (hi1 : J.ι i1 = none) :
    Pend P mid w0 (J.ext i1 w.heap.size (sizeOf' c1)) A { w with heap := w.heap.push c1, drawn := dr } i o := by
  obtain ⟨b, c, hi, hc, hor, hb, hro, hd⟩ := h
  have hlt := lt_of_get hc
  have hle : KW.le J (J.ext i1 w.heap.size (sizeOf' c1)) := KW.le_ext hi1 fun j d hj => by have := (hr.dom j d hj).2; omega
  have hgi := none_get hr hi1
  refine ⟨b, c, (hle i b hi).1, ?_, hor.mono hle, hb, hro, ?_⟩
  · simp only [Array.getElem?_push]
    rw [if_neg (by omega)]; exact hc
  · intro j o' hj hl
    have hne : j ≠ i1 := by intro e; subst e; rw [hgi] at hj; cases hj
    simp only [KW.ext, if_neg hne]
    exact hd j o' hj hl

theorem Pend.new (hp : Post P mid J0 A0 w0 J A w) {i : Nat} {o : AObj} {c : Obj} {dr : Nat} (hi : J.ι i = none) (hro : ∀ cs e, o ≠ .cells cs e true) (hor : OR P mid (J.ext i w.heap.size (sizeOf' c)) o c) :
    Pend P mid w0 (J.ext i w.heap.size (sizeOf' c)) A { w with heap := w.heap.push c, drawn := dr } i o := by
  have h := hp.hr
  have hgi := none_get h hi
  refine ⟨w.heap.size, c, by simp [KW.ext], by simp, hor, hp.sz, hro, ?_⟩
  intro j o' hj hl
  have hne : j ≠ i := by intro e; subst e; rw [hgi] at hj; cases hj
  simp only [KW.ext, if_neg hne]
  intro e
  have := (h.dom j _ e).2; omega

theorem flush_get (base : Nat) : ∀ (L : List (Nat × AObj)) (A : AW) (j : Nat) (o' : AObj), (flush base A L).get j = some o' → A.get j = some o' ∨ ∃ p ∈ L, j = base + p.1 ∧ o' = p.2 := by
  intro L
  induction L with
  | nil => intro A j o' h; exact .inl h
  | cons p L ih =>
    intro A j o' h
    obtain ⟨s, o⟩ := p
    simp only [flush] at h
    rcases ih _ j o' h with h1 | ⟨q, hq, h1⟩
    · rw [AW.get_set] at h1
      split at h1
      · rename_i e; exact .inr ⟨(s, o), by simp, e, by simpa using h1.symm⟩
      · exact .inl h1
    · exact .inr ⟨q, by simp [hq], h1⟩

theorem flush_nx (base : Nat) : ∀ (L : List (Nat × AObj)) (A : AW), (flush base A L).nx = A.nx := by
  intro L
  induction L with
  | nil => intro A; rfl
  | cons p L ih => intro A; obtain ⟨s, o⟩ := p; simp only [flush]; rw [ih]; rfl

theorem flush_post (base : Nat) : ∀ (L : List (Nat × AObj)) (A : AW), Post P mid J0 A0 w0 J A w → (∀ p ∈ L, Pend P mid w0 J A w (base + p.1) p.2) → L.Pairwise (fun p q => J.ι (base + p.1) ≠ J.ι (base + q.1)) →
    Post P mid J0 A0 w0 J (flush base A L) w := by
  intro L
  induction L with
  | nil => intro A hp _ _; exact hp
  | cons p L ih =>
    intro A hp hL hd
    obtain ⟨s, o⟩ := p
    simp only [flush]
    obtain ⟨b, c, hi, hc, hor, hb, hro, hdj⟩ := hL (s, o) (by simp)
    refine ih _ (post_add hp hi hc hor hb hro hdj) ?_ (List.Pairwise.of_cons hd)
    intro q hq
    obtain ⟨b2, c2, hi2, hc2, hor2, hb2, hro2, hdj2⟩ := hL q (by simp [hq])
    refine ⟨b2, c2, hi2, hc2, hor2, hb2, hro2, ?_⟩
    intro j o' hj hl
    rw [AW.get_set] at hj
    split at hj
    · rename_i e; subst e
      have := List.rel_of_pairwise_cons hd hq
      simp only at this
      rw [← hi2]; exact this
    · exact hdj2 j o' hj hl

/-- what is not told of stays so when other memory is told of -/
theorem Pend.flush {base : Nat} {L : List (Nat × AObj)} {i : Nat} {o : AObj} (h : Pend P mid w0 J A w i o) (hd : ∀ p ∈ L, J.ι (base + p.1) ≠ J.ι i) : Pend P mid w0 J (flush base A L) w i o := by
  obtain ⟨b, c, hi, hc, hor, hb, hro, hdj⟩ := h
  refine ⟨b, c, hi, hc, hor, hb, hro, ?_⟩
  intro j o' hj hl e
  rcases flush_get base L A j o' hj with h1 | ⟨p, hp, rfl, rfl⟩
  · exact hdj j o' h1 hl e
  · exact hd p hp (e.trans hi.symm)
end
end Go.Ae
