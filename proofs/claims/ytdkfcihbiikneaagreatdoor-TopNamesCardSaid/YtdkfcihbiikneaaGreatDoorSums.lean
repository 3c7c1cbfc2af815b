/- What the calls below lives() come to, told as summaries: arguments, blocks, what is handed back, blocks behind the call. Closed data, no condition. -/
import Derived.Test.YtdkfcihbiikneaaGreatDoorProg
import Derived.Test.YtdkfcihbiikneaaGreatDoorEvD
namespace Go.Ev
noncomputable section
abbrev Pg := Go.Proofs.Tryz.prog
def xlook (f : FuncId) (l : List (Nat × XK)) : Option XK := List.rec none (fun p _ ih => Bool.rec ih (some p.2) (Nat.beq p.1 f)) l
def xks : List (Nat × XK) := [(93, XK.noEscape), (461, .indexByte), (606, .indexByte), (601, .marked), (598, .nothing), (600, .nothing), (603, .marked), (604, .addI .i32), (559, .addI .i64), (599, .casI .i32), (455, .loadI .u32), (538, .storeI)]
def xk (f : FuncId) : Option XK := xlook f xks
def vi (n : Nat) : V := .int .i64 (.ofNat n)
def vu (n : Nat) : V := .int .u64 (.ofNat n)
def cF (e : Nat) (l : List V) : B := .cells .free (some e) (len l) (.ofList l)
def cZ (z : Fz) (e : Option TypeId) (l : List V) : B := .cells z e (len l) (.ofList l)
def gl7 : List B := [
    (cZ .gl none ([(vu 1), (vu 10), (vu 100), (vu 1000), (vu 10000), (vu 100000), (vu 1000000), (vu 10000000), (vu 100000000), (vu 1000000000), (vu 10000000000), (vu 100000000000), (vu 1000000000000), (vu 10000000000000), (vu 100000000000000), (vu 1000000000000000), (vu 10000000000000000), (vu 100000000000000000), (vu 1000000000000000000), (vu 10000000000000000000)])),
    (cZ .gl none ([(.str []), (.str [120, 102, 120]), (.str [120, 102, 121]), (.str [121, 102, 120]), (.str [102, 121]), (.str [102, 120])])),
    (cZ .gl none ([])),
    (cZ .gl none ([])),
    (cZ .gl none ([])),
    (cZ .gl none ([])),
    (cZ .gl none ([]))]
def gl7o : List (Option B) := [
    some (cZ .gl none ([(vu 1), (vu 10), (vu 100), (vu 1000), (vu 10000), (vu 100000), (vu 1000000), (vu 10000000), (vu 100000000), (vu 1000000000), (vu 10000000000), (vu 100000000000), (vu 1000000000000), (vu 10000000000000), (vu 100000000000000), (vu 1000000000000000), (vu 10000000000000000), (vu 100000000000000000), (vu 1000000000000000000), (vu 10000000000000000000)])),
    some (cZ .gl none ([(.str []), (.str [120, 102, 120]), (.str [120, 102, 121]), (.str [121, 102, 120]), (.str [102, 121]), (.str [102, 120])])),
    some (cZ .gl none ([])),
    some (cZ .gl none ([])),
    some (cZ .gl none ([])),
    some (cZ .gl none ([])),
    some (cZ .gl none ([]))]
def sRead : Sm := ⟨53, [(.str [112, 40, 49, 41, 46, 32, 112, 40, 50, 41, 46]), (.str [112, 40, 88, 41, 44, 32, 88, 32, 62, 32, 49, 32, 46])], gl7 ++ [
    ],
  (.tup [(.agg [(.slice 7 0 2 none 6), (vi 4), (vi 0), (.str [44]), (.slice 8 0 2 none 4), (.slice 9 0 1 none 1), (vi 13)]), (.agg [(vi 0), .nils, (vi 0), (vi 0), (vi 0), (vi 0)]), (.bool true)]), gl7o ++ [
    some (cF 128 ([(vi 4), (vi 0), (.str [112]), (.slice 10 0 1 none 4), .nils, (vi 0), (vi 4), (vi 0), (.str [112]), (.slice 11 0 1 none 4), .nils, (vi 0)])),
    some (cF 110 ([(vi 4), (vi 0), (.str [112]), (.slice 12 0 1 none 4), (vi 4), (vi 0), (.str [62]), (.slice 13 0 2 none 4)])),
    some (cF 9 ([(.str [88])])),
    some (cF 110 ([(vi 2), (vi 1), (.str []), .nils])),
    some (cF 110 ([(vi 2), (vi 2), (.str []), .nils])),
    some (cF 110 ([(vi 1), (vi 0), (.str []), .nils])),
    some (cF 110 ([(vi 1), (vi 0), (.str []), .nils, (vi 2), (vi 1), (.str []), .nils]))]⟩
def sStart : Sm := ⟨28, [(.agg [(.str [112, 40, 49, 41, 46, 32, 112, 40, 50, 41, 46]), (.str [112, 40, 88, 41, 44, 32, 88, 32, 62, 32, 49, 32, 46]), (vi 262144), (vi 65536), (vi 65536), (vi 4000), (vi 1000), (vi 1000), .nils])], gl7 ++ [
    ],
  (.tup [(.ptr 7 0), (.agg [(vi 0), .nils, (vi 0), (vi 0), (vi 0), (vi 0)])]), gl7o ++ [
    some (cF 147 ([(.ptr 8 0), (.ptr 9 0), (.ptr 10 0), (vu 0), (vu 9), (vu 17), (vu 4)] ++ repeatL [(vu 0)] 252 ++ [(.int .i64 (.negSucc 0)), (vi 0), (.int .i64 (.negSucc 11)), (vi 0), (vi 0), (.bool false), (vu 0), (vi 0), .nils, (.slice 11 0 1 none 1), (.slice 12 0 1 none 1), .nils, (vi 1), (vi 0)])),
    some (cF 239 ([(.ptr 13 0), (.ptr 14 0), (.ptr 15 0), (.ptr 16 0), (.slice 17 0 9 none 1), (.slice 18 0 1 (some 1) 1), (.slice 19 0 1 (some 1) 1)])),
    some (cF 304 ([(.ptr 20 0), (.int .i64 (.negSucc 0)), .nils, (vi 4000)])),
    some (cF 283 ([(vi 1000), (vi 2), (.slice 21 0 2 none 10), .nils, (.map 22)])),
    some (cF 9 ([(.str [88])])),
    some (cF 89 ([(vu 41)])),
    some (cF 245 ([(.slice 23 0 1 (some 1) 2), (vi 9), (vi 262144)])),
    some (cF 331 ([.nils, (vi 65536), (vi 0)])),
    some (cF 275 ([(.int .u32 (.ofNat 1)), (.int .i32 (.ofNat 0)), (.int .u32 (.ofNat 0)), (vi 2), (vi 16384), (.slice 24 0 17 none 3), (.map 25), .nils])),
    some (cF 250 ([(.ptr 15 0), (vi 16384), (.slice 26 0 3 none 4), (.map 27), .nils])),
    some (cF 89 ([(vu 5), (vu 26), (vu 50), (vu 13), (vu 41), (vu 41), (vu 21), (vu 41), (vu 12)])),
    some (cF 3 ([(vi 0)])),
    some (cF 3 ([(vi 0)])),
    some (cF 331 ([.nils, (vi 65536), (vi 0)])),
    some (cF 286 ([(vi 4), (vi 0), (.str [112]), (.slice 28 0 1 none 4), .nils, (vi 0), (.slice 29 0 2 none 5), (vi 1), (vi 0), (.bool true), (vi 4), (vi 0), (.str [112]), (.slice 30 0 1 none 4), .nils, (vi 0), (.slice 31 0 2 none 5), (vi 2), (vi 0), (.bool true)])),
    some (.map [((.agg [(.str [112]), (vi 1)]), (.ptr 32 0), 0)] 1),
    some (cF 327 ([(vi 0), .nils])),
    some (cF 278 ([(.str [91, 93]), (.bool true), (.bool false), (.str [46]), (.bool true), (.bool false), (.str [123, 125]), (.bool true), (.bool false), (.str [45]), (.bool true), (.bool false), (.str [44]), (.bool true), (.bool false), (.str [59]), (.bool true), (.bool false), (.str [45, 62]), (.bool true), (.bool false), (.str [58, 45]), (.bool true), (.bool false), (.str [124]), (.bool true), (.bool false), (.str [33]), (.bool true), (.bool false), (.str [92, 43]), (.bool true), (.bool false), (.str [116, 114, 117, 101]), (.bool true), (.bool false), (.str [102, 97, 105, 108]), (.bool true), (.bool false), (.str [99, 97, 108, 108]), (.bool true), (.bool false), (.str [101, 114, 114, 111, 114]), (.bool true), (.bool false), (.str [112]), (.bool true), (.bool false), (.str [62]), (.bool true), (.bool false)])),
    some (.map [((.str [91, 93]), (vi 0), 0), ((.str [46]), (vi 1), 1), ((.str [123, 125]), (vi 2), 2), ((.str [45]), (vi 3), 3), ((.str [44]), (vi 4), 4), ((.str [59]), (vi 5), 5), ((.str [45, 62]), (vi 6), 6), ((.str [58, 45]), (vi 7), 7), ((.str [124]), (vi 8), 8), ((.str [33]), (vi 9), 9), ((.str [92, 43]), (vi 10), 10), ((.str [116, 114, 117, 101]), (vi 11), 11), ((.str [102, 97, 105, 108]), (vi 12), 12), ((.str [99, 97, 108, 108]), (vi 13), 13), ((.str [101, 114, 114, 111, 114]), (vi 14), 14), ((.str [112]), (vi 15), 15), ((.str [62]), (vi 16), 16)] 17),
    some (cF 255 ([(vi 4), (vi 2), (.bool true), (.bool false), (vi 15), (vi 1), (.bool true), (.bool false), (vi 16), (vi 2), (.bool true), (.bool false)])),
    some (.map [((.agg [(vi 4), (vi 2)]), (vi 0), 0), ((.agg [(vi 15), (vi 1)]), (vi 1), 1), ((.agg [(vi 16), (vi 2)]), (vi 2), 2)] 3),
    some (cF 110 ([(vi 2), (vi 1), (.str []), .nils])),
    some (cF 223 ([(vi 4), (.str []), (vi 1), (vi 0), (vi 1), (vi 25), (.str []), (vi 0), (vi 0), (vi 0)])),
    some (cF 110 ([(vi 2), (vi 2), (.str []), .nils])),
    some (cF 223 ([(vi 4), (.str []), (vi 2), (vi 0), (vi 1), (vi 25), (.str []), (vi 0), (vi 0), (vi 0)])),
    some (cF 387 ([(.map 33), (.slice 34 0 2 none 2), (.map 35), (vi 0), (vi 2)])),
    some (.map [((.agg [(vi 1), (.str []), (vi 1)]), (.slice 36 0 1 none 2), 0), ((.agg [(vi 1), (.str []), (vi 2)]), (.slice 37 0 1 none 2), 1)] 2),
    some (cF 460 ([(vi 1), (vi 0), (vi 2), (vi 1)])),
    some (.map [((vi 0), (.agg [(vi 1), (.str []), (vi 1), (vi 1)]), 0), ((vi 1), (.agg [(vi 1), (.str []), (vi 2), (vi 2)]), 1)] 2),
    some (cF 460 ([(vi 1), (vi 0)])),
    some (cF 460 ([(vi 2), (vi 1)]))]⟩
def sMRun : Sm := ⟨43, [(.ptr 7 0), (vi 1000)], gl7 ++ [
    (cF 147 ([(.ptr 8 0), (.ptr 9 0), (.ptr 10 0), (vu 0), (vu 9), (vu 17), (vu 4)] ++ repeatL [(vu 0)] 252 ++ [(.int .i64 (.negSucc 0)), (vi 0), (.int .i64 (.negSucc 11)), (vi 0), (vi 0), (.bool false), (vu 0), (vi 0), .nils, (.slice 11 0 1 none 1), (.slice 12 0 1 none 1), .nils, (vi 1), (vi 0)])),
    (cF 239 ([(.ptr 13 0), (.ptr 14 0), (.ptr 15 0), (.ptr 16 0), (.slice 17 0 9 none 1), (.slice 18 0 1 (some 1) 1), (.slice 19 0 1 (some 1) 1)])),
    (cF 304 ([(.ptr 20 0), (.int .i64 (.negSucc 0)), .nils, (vi 4000)])),
    (cF 283 ([(vi 1000), (vi 2), (.slice 21 0 2 none 10), .nils, (.map 22)])),
    (cF 9 ([(.str [88])])),
    (cF 89 ([(vu 41)])),
    (cF 245 ([(.slice 23 0 1 (some 1) 2), (vi 9), (vi 262144)])),
    (cF 331 ([.nils, (vi 65536), (vi 0)])),
    (cF 275 ([(.int .u32 (.ofNat 1)), (.int .i32 (.ofNat 0)), (.int .u32 (.ofNat 0)), (vi 2), (vi 16384), (.slice 24 0 17 none 3), (.map 25), .nils])),
    (cF 250 ([(.ptr 15 0), (vi 16384), (.slice 26 0 3 none 4), (.map 27), .nils])),
    (cF 89 ([(vu 5), (vu 26), (vu 50), (vu 13), (vu 41), (vu 41), (vu 21), (vu 41), (vu 12)])),
    (cF 3 ([(vi 0)])),
    (cF 3 ([(vi 0)])),
    (cF 331 ([.nils, (vi 65536), (vi 0)])),
    (cF 286 ([(vi 4), (vi 0), (.str [112]), (.slice 28 0 1 none 4), .nils, (vi 0), (.slice 29 0 2 none 5), (vi 1), (vi 0), (.bool true), (vi 4), (vi 0), (.str [112]), (.slice 30 0 1 none 4), .nils, (vi 0), (.slice 31 0 2 none 5), (vi 2), (vi 0), (.bool true)])),
    (.map [((.agg [(.str [112]), (vi 1)]), (.ptr 32 0), 0)] 1),
    (cF 327 ([(vi 0), .nils])),
    (cF 278 ([(.str [91, 93]), (.bool true), (.bool false), (.str [46]), (.bool true), (.bool false), (.str [123, 125]), (.bool true), (.bool false), (.str [45]), (.bool true), (.bool false), (.str [44]), (.bool true), (.bool false), (.str [59]), (.bool true), (.bool false), (.str [45, 62]), (.bool true), (.bool false), (.str [58, 45]), (.bool true), (.bool false), (.str [124]), (.bool true), (.bool false), (.str [33]), (.bool true), (.bool false), (.str [92, 43]), (.bool true), (.bool false), (.str [116, 114, 117, 101]), (.bool true), (.bool false), (.str [102, 97, 105, 108]), (.bool true), (.bool false), (.str [99, 97, 108, 108]), (.bool true), (.bool false), (.str [101, 114, 114, 111, 114]), (.bool true), (.bool false), (.str [112]), (.bool true), (.bool false), (.str [62]), (.bool true), (.bool false)])),
    (.map [((.str [91, 93]), (vi 0), 0), ((.str [46]), (vi 1), 1), ((.str [123, 125]), (vi 2), 2), ((.str [45]), (vi 3), 3), ((.str [44]), (vi 4), 4), ((.str [59]), (vi 5), 5), ((.str [45, 62]), (vi 6), 6), ((.str [58, 45]), (vi 7), 7), ((.str [124]), (vi 8), 8), ((.str [33]), (vi 9), 9), ((.str [92, 43]), (vi 10), 10), ((.str [116, 114, 117, 101]), (vi 11), 11), ((.str [102, 97, 105, 108]), (vi 12), 12), ((.str [99, 97, 108, 108]), (vi 13), 13), ((.str [101, 114, 114, 111, 114]), (vi 14), 14), ((.str [112]), (vi 15), 15), ((.str [62]), (vi 16), 16)] 17),
    (cF 255 ([(vi 4), (vi 2), (.bool true), (.bool false), (vi 15), (vi 1), (.bool true), (.bool false), (vi 16), (vi 2), (.bool true), (.bool false)])),
    (.map [((.agg [(vi 4), (vi 2)]), (vi 0), 0), ((.agg [(vi 15), (vi 1)]), (vi 1), 1), ((.agg [(vi 16), (vi 2)]), (vi 2), 2)] 3),
    (cF 110 ([(vi 2), (vi 1), (.str []), .nils])),
    (cF 223 ([(vi 4), (.str []), (vi 1), (vi 0), (vi 1), (vi 25), (.str []), (vi 0), (vi 0), (vi 0)])),
    (cF 110 ([(vi 2), (vi 2), (.str []), .nils])),
    (cF 223 ([(vi 4), (.str []), (vi 2), (vi 0), (vi 1), (vi 25), (.str []), (vi 0), (vi 0), (vi 0)])),
    (cF 387 ([(.map 33), (.slice 34 0 2 none 2), (.map 35), (vi 0), (vi 2)])),
    (.map [((.agg [(vi 1), (.str []), (vi 1)]), (.slice 36 0 1 none 2), 0), ((.agg [(vi 1), (.str []), (vi 2)]), (.slice 37 0 1 none 2), 1)] 2),
    (cF 460 ([(vi 1), (vi 0), (vi 2), (vi 1)])),
    (.map [((vi 0), (.agg [(vi 1), (.str []), (vi 1), (vi 1)]), 0), ((vi 1), (.agg [(vi 1), (.str []), (vi 2), (vi 2)]), 1)] 2),
    (cF 460 ([(vi 1), (vi 0)])),
    (cF 460 ([(vi 2), (vi 1)]))],
  (vi 19), gl7o ++ [
    some (cF 147 ([(.ptr 8 0), (.ptr 9 0), (.ptr 10 0), (vu 0), (vu 57), (vu 65), (vu 4)] ++ repeatL [(vu 0)] 252 ++ [(.int .i64 (.negSucc 11)), (vi 2), (.int .i64 (.negSucc 11)), (vi 0), (vi 0), (.bool false), (vu 0), (vi 0), .nils, (.slice 11 0 1 none 1), (.slice 12 0 1 none 1), (.slice 38 0 2 none 2), (vi 2), (vi 19)])),
    some (cF 239 ([(.ptr 13 0), (.ptr 14 0), (.ptr 15 0), (.ptr 16 0), (.slice 17 0 9 none 1), (.slice 39 0 1 none 1), (.slice 40 0 1 none 1)])),
    some (cF 304 ([(.ptr 20 0), (.int .i64 (.negSucc 0)), (.slice 41 0 0 none 9), (vi 4000)])),
    some (cF 283 ([(vi 1000), (vi 2), (.slice 21 0 2 none 10), .nils, (.map 22)])),
    some (cF 9 ([(.str [88])])),
    some (cF 89 ([(vu 41)])),
    some (cF 245 ([(.slice 42 0 1 none 2), (vi 9), (vi 262144)])),
    some (cF 331 ([(.slice 43 0 0 none 1), (vi 65536), (vi 1)])),
    some (cF 275 ([(.int .u32 (.ofNat 1)), (.int .i32 (.ofNat 0)), (.int .u32 (.ofNat 0)), (vi 2), (vi 16384), (.slice 24 0 17 none 3), (.map 25), .nils])),
    some (cF 250 ([(.ptr 15 0), (vi 16384), (.slice 26 0 3 none 4), (.map 27), .nils])),
    some (cF 89 ([(vu 5), (vu 26), (vu 50), (vu 13), (vu 41), (vu 20), (vu 21), (vu 41), (vu 12)])),
    some (cF 3 ([(vi 0)])),
    some (cF 3 ([(vi 0)])),
    some (cF 331 ([(.slice 44 0 6 none 1), (vi 65536), (vi 6)])),
    some (cF 286 ([(vi 4), (vi 0), (.str [112]), (.slice 28 0 1 none 4), .nils, (vi 0), (.slice 29 0 2 none 5), (vi 1), (vi 0), (.bool true), (vi 4), (vi 0), (.str [112]), (.slice 30 0 1 none 4), .nils, (vi 0), (.slice 31 0 2 none 5), (vi 2), (vi 0), (.bool true)])),
    some (.map [((.agg [(.str [112]), (vi 1)]), (.ptr 32 0), 0)] 1),
    some (cF 327 ([(vi 0), .nils])),
    some (cF 278 ([(.str [91, 93]), (.bool true), (.bool false), (.str [46]), (.bool true), (.bool false), (.str [123, 125]), (.bool true), (.bool false), (.str [45]), (.bool true), (.bool false), (.str [44]), (.bool true), (.bool false), (.str [59]), (.bool true), (.bool false), (.str [45, 62]), (.bool true), (.bool false), (.str [58, 45]), (.bool true), (.bool false), (.str [124]), (.bool true), (.bool false), (.str [33]), (.bool true), (.bool false), (.str [92, 43]), (.bool true), (.bool false), (.str [116, 114, 117, 101]), (.bool true), (.bool false), (.str [102, 97, 105, 108]), (.bool true), (.bool false), (.str [99, 97, 108, 108]), (.bool true), (.bool false), (.str [101, 114, 114, 111, 114]), (.bool true), (.bool false), (.str [112]), (.bool true), (.bool false), (.str [62]), (.bool true), (.bool false)])),
    some (.map [((.str [91, 93]), (vi 0), 0), ((.str [46]), (vi 1), 1), ((.str [123, 125]), (vi 2), 2), ((.str [45]), (vi 3), 3), ((.str [44]), (vi 4), 4), ((.str [59]), (vi 5), 5), ((.str [45, 62]), (vi 6), 6), ((.str [58, 45]), (vi 7), 7), ((.str [124]), (vi 8), 8), ((.str [33]), (vi 9), 9), ((.str [92, 43]), (vi 10), 10), ((.str [116, 114, 117, 101]), (vi 11), 11), ((.str [102, 97, 105, 108]), (vi 12), 12), ((.str [99, 97, 108, 108]), (vi 13), 13), ((.str [101, 114, 114, 111, 114]), (vi 14), 14), ((.str [112]), (vi 15), 15), ((.str [62]), (vi 16), 16)] 17),
    some (cF 255 ([(vi 4), (vi 2), (.bool true), (.bool false), (vi 15), (vi 1), (.bool true), (.bool false), (vi 16), (vi 2), (.bool true), (.bool false)])),
    some (.map [((.agg [(vi 4), (vi 2)]), (vi 0), 0), ((.agg [(vi 15), (vi 1)]), (vi 1), 1), ((.agg [(vi 16), (vi 2)]), (vi 2), 2)] 3),
    some (cF 110 ([(vi 2), (vi 1), (.str []), .nils])),
    some (cF 223 ([(vi 4), (.str []), (vi 1), (vi 0), (vi 1), (vi 25), (.str []), (vi 0), (vi 0), (vi 0)])),
    some (cF 110 ([(vi 2), (vi 2), (.str []), .nils])),
    some (cF 223 ([(vi 4), (.str []), (vi 2), (vi 0), (vi 1), (vi 25), (.str []), (vi 0), (vi 0), (vi 0)])),
    some (cF 387 ([(.map 33), (.slice 34 0 2 none 2), (.map 35), (vi 0), (vi 2)])),
    some (.map [((.agg [(vi 1), (.str []), (vi 1)]), (.slice 36 0 1 none 2), 0), ((.agg [(vi 1), (.str []), (vi 2)]), (.slice 37 0 1 none 2), 1)] 2),
    some (cF 460 ([(vi 1), (vi 0), (vi 2), (vi 1)])),
    some (.map [((vi 0), (.agg [(vi 1), (.str []), (vi 1), (vi 1)]), 0), ((vi 1), (.agg [(vi 1), (.str []), (vi 2), (vi 2)]), 1)] 2),
    some (cF 460 ([(vi 1), (vi 0)])),
    some (cF 460 ([(vi 2), (vi 1)])),
    some (cF 43 ([(vi 1), (.str [88, 32, 61, 32, 50]), (vi 4), (.str [])])),
    some (cF 3 ([(vi 0), (vi 9)])),
    some (cF 3 ([(vi 0), (vi 0)])),
    some (cF 234 ([(vi 1), (.slice 45 0 1 none 1), (.int .i64 (.negSucc 0)), (vi 5), (vi 2), (vi 1), (vi 0), (vi 0), (vi 6)])),
    some (cF 327 ([(vi 0), .nils, (vi 9), .nils])),
    some (cF 89 ([(vu 5)])),
    some (cF 89 ([(vu 0), (vu 18446744073709551604), (vu 0), (vu 2), (vu 17), (vu 4)])),
    some (cF 89 ([(vu 33)]))]⟩
def sRun : Sm := ⟨9, [(.agg [(.str [112, 40, 49, 41, 46, 32, 112, 40, 50, 41, 46]), (.str [112, 40, 88, 41, 44, 32, 88, 32, 62, 32, 49, 32, 46]), (vi 262144), (vi 65536), (vi 65536), (vi 4000), (vi 1000), (vi 1000), .nils])], gl7 ++ [
    ],
  (.agg [(vi 4), (.slice 7 0 2 none 2), (vi 19), (vi 0), (vi 0), (vi 0)]), gl7o ++ [
    some (cF 43 ([(vi 1), (.str [88, 32, 61, 32, 50]), (vi 4), (.str [])]))]⟩
def sMeant : Sm := ⟨33, [(.agg [(.str [112, 40, 49, 41, 46, 32, 112, 40, 50, 41, 46]), (.str [112, 40, 88, 41, 44, 32, 88, 32, 62, 32, 49, 32, 46]), (vi 262144), (vi 65536), (vi 65536), (vi 4000), (vi 1000), (vi 1000), .nils]), (vi 100)], gl7 ++ [
    ],
  (.tup [(.slice 7 0 2 none 2), (.bool true), (.bool true)]), gl7o ++ [
    some (cF 43 ([(vi 1), (.str [88, 32, 61, 32, 50]), (vi 4), (.str [])]))]⟩
def sJudge : Sm := ⟨12, [(.agg [(.str [112, 40, 49, 41, 46, 32, 112, 40, 50, 41, 46]), (.str [112, 40, 88, 41, 44, 32, 88, 32, 62, 32, 49, 32, 46]), (vi 262144), (vi 65536), (vi 65536), (vi 4000), (vi 1000), (vi 1000), .nils]), (vi 100)], gl7 ++ [
    ],
  .nils, gl7o ++ [
    ]⟩
def sLives : Sm := ⟨5, [], gl7 ++ [
    ],
  (.bool true), gl7o ++ [
    ]⟩
def sTop : Sm := ⟨3, [], gl7 ++ [
    ],
  (.bool true), gl7o ++ [
    ]⟩
end
end Go.Ev
