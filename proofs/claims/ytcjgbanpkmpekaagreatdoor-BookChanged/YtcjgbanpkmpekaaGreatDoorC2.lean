import Derived.Test.YtcjgbanpkmpekaaGreatDoorC1
import Derived.Test.YtcjgbanpkmpekaaGreatDoorProg
import Derived.Shelf.Strings.Builder1
import Derived.Shelf.Strings.Builder2
import Derived.Shelf.Strings.OnBuilder
import Derived.Shelf.Small.Strs
import Derived.Shelf.Small.Wraps
import Derived.Shelf.Strings.BuilderF
import Derived.Shelf.Strings.BuilderK
import Derived.Shelf.Utf8.RuneCount
import Derived.Shelf.Strings.Builder2Cap
import Derived.Shelf.Strconv.Atoi
import Derived.Shelf.Strconv.Itoa0
import Derived.Shelf.Strconv.Itoa1
import Derived.Shelf.LaysM
import Derived.Shelf.Strconv.Itoa2
import Derived.Shelf.Strconv.Itoa3
import Derived.Shelf.Strconv.AtoiErrFast
import Derived.Shelf.Strconv.ParseIntEmpty
import Derived.Shelf.Strconv.AtoiFail
import Derived.Shelf.Strconv.Clone
import Derived.Shelf.Strconv.SyntaxError
import Derived.Shelf.LaysC
import Derived.Shelf.Strconv.ToError
import Derived.Shelf.Strconv.Lower
import Derived.Shelf.Strconv.ParseUint10
import Derived.Shelf.Strconv.ParseUint10Empty
import Derived.Shelf.Strconv.ParseUint10Any
import Derived.Shelf.Strconv.ParseInt10
import Derived.Shelf.Strconv.AtoiLong
import Derived.Shelf.Strconv.AtoiInnerAll
import Derived.Shelf.Strconv.RangeError
import Derived.Shelf.Strconv.ToErrorRange
import Derived.Shelf.Strconv.AtoiAll
import Derived.Shelf.Strconv.ErrVarAll
import Derived.Shelf.Strconv.ParseUintEmpty
import Derived.Shelf.Strconv.ParseUint10b64
import Derived.Shelf.Strconv.ParseUint10b32
import Derived.Shelf.Strconv.ParseUint10b16
import Derived.Shelf.Strconv.ParseUint10b8
import Derived.Shelf.Strconv.ParseUint10At
import Derived.Shelf.Strings.Search1
import Derived.Shelf.Strings.Search2
import Derived.Shelf.Strings.Search3
import Derived.Shelf.Strings.Cut
import Derived.Shelf.Strings.Count
import Derived.Shelf.Strings.Shaped
import Derived.Shelf.Strings.LastIndex
import Derived.Shelf.Strings.LastIndexAll
import Derived.Shelf.Strings.Prefix
import Derived.Shelf.Strings.Split
import Derived.Shelf.Strings.SplitShaped
import Derived.Shelf.Unicode.Decode
import Derived.Shelf.Strings.RuneCount
import Derived.Shelf.Strings.Explode
import Derived.Shelf.Unicode.DecodeSlow
import Derived.Shelf.Unicode.DecodeAny
import Derived.Shelf.Strings.BuilderCap
import Derived.Lib.AtoiAll
import Derived.Lib.ItoaNum
import Derived.Lib.SplitLaws
import Derived.Lib.Split
import Derived.Lib.Join
import Derived.Lib.Strings
import Derived.Lib.IndexMore
/- Lemmas: contracts over the visible heap, and that they are sound; no condition. -/
/- The functions' shallow texts, by gen.py, and that the text of conditions comes to them. -/
set_option linter.unusedVariables false
set_option maxRecDepth 100000
namespace Go.Proofs.YtcjgbanpkmpekaaGreatDoor.G
open Go.V
noncomputable abbrev Pg : Program := Tryz.prog
abbrev F_law14_BookTexts : FuncId := 3
abbrev F_law14_BookHears : FuncId := 4
abbrev F_law14_BookNames : FuncId := 5
abbrev F_law14_BookBack : FuncId := 6
abbrev F_law14_BookAgain : FuncId := 7
abbrev F_law14_BookChanged : FuncId := 8
abbrev F_law14_BookOwns : FuncId := 9
abbrev F_law14_BookGrows : FuncId := 10
abbrev F_law14_BookCut : FuncId := 11
abbrev F_law14_long : FuncId := 12
abbrev F_law14_alive : FuncId := 13
abbrev F_book_WritePegs : FuncId := 14
abbrev F_ref14_WritePegs : FuncId := 15
abbrev F_book_ReadPegs : FuncId := 16
abbrev F_ref14_ReadPegs : FuncId := 17
abbrev F_book_WritePanels : FuncId := 18
abbrev F_ref14_WritePanels : FuncId := 19
abbrev F_book_ReadPanels : FuncId := 20
abbrev F_ref14_ReadPanels : FuncId := 21
abbrev F_ref14_SamePegs : FuncId := 22
abbrev F_ref14_SamePanels : FuncId := 23
abbrev F_book_WriteHearing : FuncId := 24
abbrev F_ref14_WriteHearing : FuncId := 25
abbrev F_book_ReadHearing : FuncId := 26
abbrev F_ref14_ReadHearing : FuncId := 27
abbrev F_book_WriteFurrow : FuncId := 28
abbrev F_ref14_WriteFurrow : FuncId := 29
abbrev F_book_ReadFurrow : FuncId := 30
abbrev F_ref14_ReadFurrow : FuncId := 31
abbrev F_ref14_SameHearing : FuncId := 32
abbrev F_ref14_SameBytes : FuncId := 33
abbrev F_ref14_SameFurrow : FuncId := 34
abbrev F_ref14_Check : FuncId := 35
abbrev F_ref01_Pegs : FuncId := 36
abbrev F_ref09_Panels : FuncId := 37
abbrev F_ref12_Hearing : FuncId := 38
abbrev F_ref14_Plain : FuncId := 39
abbrev F_ref04_Furrow : FuncId := 40
abbrev F_law14_span : FuncId := 41
abbrev F_ref09_Ints : FuncId := 42
abbrev F_law14_BookGrows_c1 : FuncId := 43
abbrev F_strings_HasPrefix : FuncId := 44
abbrev F_law14_BookCut_c1 : FuncId := 45
abbrev F_strings_LastIndex : FuncId := 46
abbrev F_strings_TrimSuffix : FuncId := 47
abbrev F_law14_pegs : FuncId := 48
abbrev F_law14_panels : FuncId := 49
abbrev F_law14_hearing : FuncId := 50
abbrev F_law14_furrow : FuncId := 51
abbrev F_book_pegsFile : FuncId := 52
abbrev F_book_file_api_Pegs_write : FuncId := 53
abbrev F_ref14_digits : FuncId := 54
abbrev F_ref14_dots : FuncId := 55
abbrev F_book_file_api_Pegs_read : FuncId := 56
abbrev F_ref14_lines : FuncId := 57
abbrev F_ref14_pegs : FuncId := 58
abbrev F_book_panelsFile : FuncId := 59
abbrev F_book_file_api_Panels_write : FuncId := 60
abbrev F_ref14_all : FuncId := 61
abbrev F_book_file_api_Panels_read : FuncId := 62
abbrev F_ref14_panels : FuncId := 63
abbrev F_book_hearingFile : FuncId := 64
abbrev F_book_file_api_Hearing_write : FuncId := 65
abbrev F_ref14_kind : FuncId := 66
abbrev F_ref14_word : FuncId := 67
abbrev F_book_file_api_Hearing_read : FuncId := 68
abbrev F_ref14_hearing : FuncId := 69
abbrev F_book_isFurrow : FuncId := 70
abbrev F_slices_Concat_api_Span_api_Span : FuncId := 71
abbrev F_book_checked : FuncId := 72
abbrev F_book_ReadFurrow_c1 : FuncId := 73
abbrev F_book_caught : FuncId := 74
abbrev F_book_need : FuncId := 75
abbrev F_slices_Equal_byte_byte : FuncId := 76
abbrev F_book_ReadFurrow_c2 : FuncId := 77
abbrev F_book_ReadFurrow_c3 : FuncId := 78
abbrev F_ref14_furrow : FuncId := 79
abbrev F_ref14_spans : FuncId := 80
abbrev F_ref01_in : FuncId := 81
abbrev F_ref01_span : FuncId := 82
abbrev F_ref01_Peg : FuncId := 83
abbrev F_ref09_in : FuncId := 84
abbrev F_ref09_all : FuncId := 85
abbrev F_ref12_in : FuncId := 86
abbrev F_ref12_Word : FuncId := 87
abbrev F_ref04_span : FuncId := 88
abbrev F_internal_stringslite_HasPrefix : FuncId := 89
abbrev F_internal_bytealg_LastIndexByteString : FuncId := 90
abbrev F_internal_bytealg_LastIndexRabinKarp_string : FuncId := 91
abbrev F_internal_stringslite_TrimSuffix : FuncId := 92
abbrev F_law14_pegs_c1 : FuncId := 93
abbrev F_book_pegsFile_c1 : FuncId := 94
abbrev F_book_pegsFile_c2 : FuncId := 95
abbrev F_strconv_Itoa : FuncId := 96
abbrev F_book_file_api_Pegs_read_c1 : FuncId := 97
abbrev F_book_fill : FuncId := 98
abbrev F_ref14_split : FuncId := 99
abbrev F_ref14_numbers : FuncId := 100
abbrev F_ref14_spanOf : FuncId := 101
abbrev F_book_panelsFile_c1 : FuncId := 102
abbrev F_book_panelsFile_c2 : FuncId := 103
abbrev F_book_file_api_Panels_read_c1 : FuncId := 104
abbrev F_book_hearingFile_c1 : FuncId := 105
abbrev F_book_hearingFile_c2 : FuncId := 106
abbrev F_book_file_api_Hearing_read_c1 : FuncId := 107
abbrev F_ref14_wordOf : FuncId := 108
abbrev F_ref14_claim : FuncId := 109
abbrev F_book_isFurrow_c1 : FuncId := 110
abbrev F_book_isSpan : FuncId := 111
abbrev F_book_isFurrow_c2 : FuncId := 112
abbrev F_book_isFurrow_c3 : FuncId := 113
abbrev F_slices_ContainsFunc_api_Span_api_Span : FuncId := 114
abbrev F_slices_Grow_api_Span_api_Span : FuncId := 115
abbrev F_slices_Clone_byte_byte : FuncId := 116
abbrev F_internal_bytealg_hashStrRev_string : FuncId := 117
abbrev F_internal_stringslite_HasSuffix : FuncId := 118
abbrev F_internal_strconv_Itoa : FuncId := 119
abbrev F_book_rows : FuncId := 120
abbrev F_book_row_part : FuncId := 121
abbrev F_ref14_number : FuncId := 122
abbrev F_slices_IndexFunc_api_Span_api_Span : FuncId := 123
abbrev F_internal_strconv_FormatInt : FuncId := 124
abbrev F_book_rows_c1 : FuncId := 125
abbrev F_strings_HasSuffix : FuncId := 126
abbrev F_strings_Lines : FuncId := 127
abbrev F_strings_Split : FuncId := 128
abbrev F_internal_strconv_small : FuncId := 129
abbrev F_internal_strconv_numDigits : FuncId := 130
abbrev F_internal_strconv_formatBase10 : FuncId := 131
abbrev F_internal_strconv_formatBits : FuncId := 132
abbrev F_strings_Lines_c1 : FuncId := 133
abbrev F_strings_IndexByte : FuncId := 134
abbrev F_strings_genSplit : FuncId := 135
abbrev F_internal_strconv_log10Pow2 : FuncId := 136
abbrev F_math_bits_Len64 : FuncId := 137
abbrev F_internal_strconv_bool2_int : FuncId := 138
abbrev F_internal_strconv_isPowerOfTwo : FuncId := 139
abbrev F_math_bits_TrailingZeros : FuncId := 140
abbrev F_internal_stringslite_IndexByte : FuncId := 141
abbrev F_strings_explode : FuncId := 142
abbrev F_strings_Count : FuncId := 143
abbrev F_strings_Index : FuncId := 144
abbrev F_math_bits_TrailingZeros32 : FuncId := 145
abbrev F_math_bits_TrailingZeros64 : FuncId := 146
abbrev F_unicode_utf8_RuneCountInString : FuncId := 148
abbrev F_unicode_utf8_DecodeRuneInString : FuncId := 149
abbrev F_internal_stringslite_Index : FuncId := 151
abbrev F_unicode_utf8_decodeRuneInStringSlow : FuncId := 152
abbrev F_internal_bytealg_Cutover : FuncId := 154
abbrev F_internal_bytealg_IndexRabinKarp_string : FuncId := 155
abbrev F_internal_bytealg_hashStr_string : FuncId := 156
abbrev F_book_pegs_begins : FuncId := 172
abbrev F_book_pegs_other : FuncId := 173
abbrev F_book_pegs_text : FuncId := 174
abbrev F_book_pegs_begins_c1 : FuncId := 175
abbrev F_book_row_number : FuncId := 176
abbrev F_book_pegs_begins_c2 : FuncId := 177
abbrev F_book_row_span : FuncId := 178
abbrev F_book_pegs_begins_c3 : FuncId := 179
abbrev F_book_strange_other : FuncId := 180
abbrev F_book_said : FuncId := 181
abbrev F_book_isPegs : FuncId := 182
abbrev F_book_figure : FuncId := 183
abbrev F_strings_Cut : FuncId := 184
abbrev F_book_worded : FuncId := 185
abbrev F_strings_Join : FuncId := 186
abbrev F_book_isPegs_c1 : FuncId := 187
abbrev F_book_isPegs_c2 : FuncId := 188
abbrev F_book_within : FuncId := 189
abbrev F_book_isPegs_c3 : FuncId := 190
abbrev F_book_isPegs_c4 : FuncId := 191
abbrev F_slices_ContainsFunc_api_Post_api_Post : FuncId := 192
abbrev F_slices_ContainsFunc_api_Length_api_Length : FuncId := 193
abbrev F_strconv_Atoi : FuncId := 194
abbrev F_internal_stringslite_Cut : FuncId := 195
abbrev F_strings_Builder_Grow : FuncId := 196
abbrev F_strings_Builder_WriteString : FuncId := 197
abbrev F_strings_Builder_String : FuncId := 198
abbrev F_slices_IndexFunc_api_Post_api_Post : FuncId := 199
abbrev F_slices_IndexFunc_api_Length_api_Length : FuncId := 200
abbrev F_internal_strconv_Atoi : FuncId := 201
abbrev F_strconv_toError : FuncId := 202
abbrev F_strings_Builder_copyCheck : FuncId := 203
abbrev F_strings_Builder_grow : FuncId := 204
abbrev F_internal_strconv_ParseInt : FuncId := 205
abbrev F_strconv_syntaxError : FuncId := 206
abbrev F_strconv_rangeError : FuncId := 207
abbrev F_strconv_baseError : FuncId := 208
abbrev F_strconv_bitSizeError : FuncId := 209
abbrev F_internal_strconv_ParseUint : FuncId := 212
abbrev F_internal_stringslite_Clone : FuncId := 213
abbrev F_errors_New : FuncId := 214
abbrev F_internal_strconv_lower : FuncId := 215
abbrev F_internal_strconv_underscoreOK : FuncId := 216
abbrev F_book_panels_begins : FuncId := 217
abbrev F_book_panels_other : FuncId := 218
abbrev F_book_panels_text : FuncId := 219
abbrev F_book_panels_begins_c1 : FuncId := 220
abbrev F_book_row_numbers : FuncId := 221
abbrev F_book_panels_begins_c2 : FuncId := 222
abbrev F_book_panels_begins_c3 : FuncId := 223
abbrev F_book_isPanels : FuncId := 224
abbrev F_book_isPanels_c1 : FuncId := 225
abbrev F_book_isPanels_c2 : FuncId := 226
abbrev F_book_isPanels_c3 : FuncId := 227
abbrev F_slices_ContainsFunc_int_int : FuncId := 228
abbrev F_slices_ContainsFunc_api_Kin_api_Kin : FuncId := 229
abbrev F_slices_IndexFunc_int_int : FuncId := 230
abbrev F_slices_IndexFunc_api_Kin_api_Kin : FuncId := 231
abbrev F_book_hearing_begins : FuncId := 232
abbrev F_book_hearing_other : FuncId := 233
abbrev F_book_hearing_text : FuncId := 234
abbrev F_book_hearing_begins_c1 : FuncId := 235
abbrev F_book_hearing_begins_c2 : FuncId := 236
abbrev F_book_row_word : FuncId := 237
abbrev F_book_kinds : FuncId := 238
abbrev F_book_isHearing : FuncId := 239
abbrev F_strings_CutPrefix : FuncId := 240
abbrev F_book_isHearing_c1 : FuncId := 241
abbrev F_book_isHearing_c2 : FuncId := 242
abbrev F_slices_ContainsFunc_api_Claim_api_Claim : FuncId := 243
abbrev F_slices_ContainsFunc_api_Word_api_Word : FuncId := 244
abbrev F_internal_stringslite_CutPrefix : FuncId := 245
abbrev F_slices_IndexFunc_api_Claim_api_Claim : FuncId := 246
abbrev F_slices_IndexFunc_api_Word_api_Word : FuncId := 247
def an_14 : Nat → Ann := fun b => match b with
 | _ => {}
abbrev rv_14 : List ResultVar := [.tmp 2, .tmp 3]
abbrev rs_14 : List Nat := [12, 2, 3]
def T_book_WritePegs (W : World) (n1 : Int) (x2 : Option Addr) (l3 : Nat) (c4 : Nat) (x5 : Option Addr) (l6 : Nat) (c7 : Nat) (R : Ending → Hp → Prop) : Hp → Prop :=
 NEW 25 [(.int .i64 n1), (.slice x2 l3 c4), (.slice x5 l6 c7)] fun B8 =>
 CALL Pg W F_book_pegsFile []
 (fun v9 => AGG v9 fun q11 => HD q11 fun v12 r13 => HD r13 fun v14 r15 => NL r15 <|
 RDI .i64 (Addr.add ⟨B8, 0, none⟩ 0) fun n16 =>
 RDL (Addr.add ⟨B8, 0, none⟩ 1) fun x17 l18 c19 =>
 RDL (Addr.add ⟨B8, 0, none⟩ 2) fun x20 l21 c22 =>
 CALLV Pg W (.func (.func 53) #[(.agg #[v12, v14])] #[]) [(.agg #[(.int .i64 n16), (.slice x17 l18 c19), (.slice x20 l21 c22)])]
 (fun v23 => TUP v23 fun q25 => HD q25 fun v26 r27 => TYS v26 fun t28 =>
 HD r27 fun v29 r30 => TYI .i64 v29 fun n31 =>
 NL r30 <|
 R (.returned (.tuple #[(.string t28), (.int .i64 n31)])))
 (fun e24 => R (.panicked e24)))
 (fun e10 => R (.panicked e10))
theorem does_book_WritePegs (W : World) (n1 : Int) (x2 : Option Addr) (l3 : Nat) (c4 : Nat) (x5 : Option Addr) (l6 : Nat) (c7 : Nat) (R : Ending → Hp → Prop) (s : Hp) (h : T_book_WritePegs W n1 x2 l3 c4 x5 l6 c7 R s) : Does Pg W F_book_WritePegs #[(.agg #[(.int .i64 n1), (.slice x2 l3 c4), (.slice x5 l6 c7)])] s R :=
  does_of_vfun Pg W an_14 Tryz.func14 rfl (by kernel_rfl) (Eq.mpr (by kernel_rfl) h)
def an_16 : Nat → Ann := fun b => match b with
 | _ => {}
abbrev rv_16 : List ResultVar := [.cell 2 25, .tmp 3]
abbrev rs_16 : List Nat := [9, 2, 3]
def T_book_ReadPegs (W : World) (t1 : ByteArray) (R : Ending → Hp → Prop) : Hp → Prop :=
 NEWZ Pg 25 fun B2 =>
 CALL Pg W F_book_pegsFile []
 (fun v3 => AGG v3 fun q5 => HD q5 fun v6 r7 => HD r7 fun v8 r9 => NL r9 <|
 CALL Pg W F_book_file_api_Pegs_read [(.agg #[v6, v8]), (.string t1)]
 (fun v10 => TUP v10 fun q12 => HD q12 fun v13 r14 => AGG v13 fun q15 => HD q15 fun v16 r17 => TYI .i64 v16 fun n18 =>
 HD r17 fun v19 r20 => TYL v19 fun x21 l22 c23 =>
 HD r20 fun v24 r25 => TYL v24 fun x26 l27 c28 =>
 NL r25 <|
 HD r14 fun v29 r30 => TYI .i64 v29 fun n31 =>
 NL r30 <|
 WR (Addr.add ⟨B2, 0, none⟩ 0) (.int .i64 n18) <|
 WR (Addr.add ⟨B2, 0, none⟩ 1) (.slice x21 l22 c23) <|
 WR (Addr.add ⟨B2, 0, none⟩ 2) (.slice x26 l27 c28) <|
 RDI .i64 (Addr.add ⟨B2, 0, none⟩ 0) fun n32 =>
 RDL (Addr.add ⟨B2, 0, none⟩ 1) fun x33 l34 c35 =>
 RDL (Addr.add ⟨B2, 0, none⟩ 2) fun x36 l37 c38 =>
 R (.returned (.tuple #[(.agg #[(.int .i64 n32), (.slice x33 l34 c35), (.slice x36 l37 c38)]), (.int .i64 n31)])))
 (fun e11 => R (.panicked e11)))
 (fun e4 => R (.panicked e4))
theorem does_book_ReadPegs (W : World) (t1 : ByteArray) (R : Ending → Hp → Prop) (s : Hp) (h : T_book_ReadPegs W t1 R s) : Does Pg W F_book_ReadPegs #[(.string t1)] s R :=
  does_of_vfun Pg W an_16 Tryz.func16 rfl (by kernel_rfl) (Eq.mpr (by kernel_rfl) h)
def an_18 : Nat → Ann := fun b => match b with
 | _ => {}
abbrev rv_18 : List ResultVar := [.tmp 2, .tmp 3]
abbrev rs_18 : List Nat := [9, 2, 3]
def T_book_WritePanels (W : World) (x1 : Option Addr) (l2 : Nat) (c3 : Nat) (x4 : Option Addr) (l5 : Nat) (c6 : Nat) (x7 : Option Addr) (l8 : Nat) (c9 : Nat) (R : Ending → Hp → Prop) : Hp → Prop :=
 NEW 29 [(.slice x1 l2 c3), (.slice x4 l5 c6), (.slice x7 l8 c9)] fun B10 =>
 RDL (Addr.add ⟨B10, 0, none⟩ 0) fun x11 l12 c13 =>
 RDL (Addr.add ⟨B10, 0, none⟩ 1) fun x14 l15 c16 =>
 RDL (Addr.add ⟨B10, 0, none⟩ 2) fun x17 l18 c19 =>
 CALL Pg W F_book_panelsFile []
 (fun v20 => AGG v20 fun q22 => HD q22 fun v23 r24 => HD r24 fun v25 r26 => NL r26 <|
 ANDS (RDL (Addr.add ⟨B10, 0, none⟩ 0) fun x27 l28 c29 =>
 RDL (Addr.add ⟨B10, 0, none⟩ 1) fun x30 l31 c32 =>
 RDL (Addr.add ⟨B10, 0, none⟩ 2) fun x33 l34 c35 =>
 fun _ => ((.agg #[(.slice x27 l28 c29), (.slice x30 l31 c32), (.slice x33 l34 c35)]) : Value) = (.agg #[(.slice x11 l12 c13), (.slice x14 l15 c16), (.slice x17 l18 c19)])) <|
 CALL Pg W F_book_file_api_Panels_write [(.agg #[v23, v25]), (.agg #[(.slice x11 l12 c13), (.slice x14 l15 c16), (.slice x17 l18 c19)])]
 (fun v36 => TUP v36 fun q38 => HD q38 fun v39 r40 => TYS v39 fun t41 =>
 HD r40 fun v42 r43 => TYI .i64 v42 fun n44 =>
 NL r43 <|
 R (.returned (.tuple #[(.string t41), (.int .i64 n44)])))
 (fun e37 => R (.panicked e37)))
 (fun e21 => R (.panicked e21))
theorem does_book_WritePanels (W : World) (x1 : Option Addr) (l2 : Nat) (c3 : Nat) (x4 : Option Addr) (l5 : Nat) (c6 : Nat) (x7 : Option Addr) (l8 : Nat) (c9 : Nat) (R : Ending → Hp → Prop) (s : Hp) (h : T_book_WritePanels W x1 l2 c3 x4 l5 c6 x7 l8 c9 R s) : Does Pg W F_book_WritePanels #[(.agg #[(.slice x1 l2 c3), (.slice x4 l5 c6), (.slice x7 l8 c9)])] s R :=
  does_of_vfun Pg W an_18 Tryz.func18 rfl (by kernel_rfl) (Eq.mpr (by kernel_rfl) h)
def an_20 : Nat → Ann := fun b => match b with
 | _ => {}
abbrev rv_20 : List ResultVar := [.cell 2 29, .tmp 3]
abbrev rs_20 : List Nat := [9, 2, 3]
def T_book_ReadPanels (W : World) (t1 : ByteArray) (R : Ending → Hp → Prop) : Hp → Prop :=
 NEWZ Pg 29 fun B2 =>
 CALL Pg W F_book_panelsFile []
 (fun v3 => AGG v3 fun q5 => HD q5 fun v6 r7 => HD r7 fun v8 r9 => NL r9 <|
 CALL Pg W F_book_file_api_Panels_read [(.agg #[v6, v8]), (.string t1)]
 (fun v10 => TUP v10 fun q12 => HD q12 fun v13 r14 => AGG v13 fun q15 => HD q15 fun v16 r17 => TYL v16 fun x18 l19 c20 =>
 HD r17 fun v21 r22 => TYL v21 fun x23 l24 c25 =>
 HD r22 fun v26 r27 => TYL v26 fun x28 l29 c30 =>
 NL r27 <|
 HD r14 fun v31 r32 => TYI .i64 v31 fun n33 =>
 NL r32 <|
 WR (Addr.add ⟨B2, 0, none⟩ 0) (.slice x18 l19 c20) <|
 WR (Addr.add ⟨B2, 0, none⟩ 1) (.slice x23 l24 c25) <|
 WR (Addr.add ⟨B2, 0, none⟩ 2) (.slice x28 l29 c30) <|
 RDL (Addr.add ⟨B2, 0, none⟩ 0) fun x34 l35 c36 =>
 RDL (Addr.add ⟨B2, 0, none⟩ 1) fun x37 l38 c39 =>
 RDL (Addr.add ⟨B2, 0, none⟩ 2) fun x40 l41 c42 =>
 R (.returned (.tuple #[(.agg #[(.slice x34 l35 c36), (.slice x37 l38 c39), (.slice x40 l41 c42)]), (.int .i64 n33)])))
 (fun e11 => R (.panicked e11)))
 (fun e4 => R (.panicked e4))
theorem does_book_ReadPanels (W : World) (t1 : ByteArray) (R : Ending → Hp → Prop) (s : Hp) (h : T_book_ReadPanels W t1 R s) : Does Pg W F_book_ReadPanels #[(.string t1)] s R :=
  does_of_vfun Pg W an_20 Tryz.func20 rfl (by kernel_rfl) (Eq.mpr (by kernel_rfl) h)
def an_24 : Nat → Ann := fun b => match b with
 | _ => {}
abbrev rv_24 : List ResultVar := [.tmp 2, .tmp 3]
abbrev rs_24 : List Nat := [9, 2, 3]
def T_book_WriteHearing (W : World) (n1 : Int) (n2 : Int) (n3 : Int) (x4 : Option Addr) (l5 : Nat) (c6 : Nat) (x7 : Option Addr) (l8 : Nat) (c9 : Nat) (R : Ending → Hp → Prop) : Hp → Prop :=
 NEW 34 [(.int .i64 n1), (.int .i64 n2), (.int .i64 n3), (.slice x4 l5 c6), (.slice x7 l8 c9)] fun B10 =>
 RDI .i64 (Addr.add ⟨B10, 0, none⟩ 0) fun n11 =>
 RDI .i64 (Addr.add ⟨B10, 0, none⟩ 1) fun n12 =>
 RDI .i64 (Addr.add ⟨B10, 0, none⟩ 2) fun n13 =>
 RDL (Addr.add ⟨B10, 0, none⟩ 3) fun x14 l15 c16 =>
 RDL (Addr.add ⟨B10, 0, none⟩ 4) fun x17 l18 c19 =>
 CALL Pg W F_book_hearingFile []
 (fun v20 => AGG v20 fun q22 => HD q22 fun v23 r24 => HD r24 fun v25 r26 => NL r26 <|
 ANDS (RDI .i64 (Addr.add ⟨B10, 0, none⟩ 0) fun n27 =>
 RDI .i64 (Addr.add ⟨B10, 0, none⟩ 1) fun n28 =>
 RDI .i64 (Addr.add ⟨B10, 0, none⟩ 2) fun n29 =>
 RDL (Addr.add ⟨B10, 0, none⟩ 3) fun x30 l31 c32 =>
 RDL (Addr.add ⟨B10, 0, none⟩ 4) fun x33 l34 c35 =>
 fun _ => ((.agg #[(.int .i64 n27), (.int .i64 n28), (.int .i64 n29), (.slice x30 l31 c32), (.slice x33 l34 c35)]) : Value) = (.agg #[(.int .i64 n11), (.int .i64 n12), (.int .i64 n13), (.slice x14 l15 c16), (.slice x17 l18 c19)])) <|
 CALL Pg W F_book_file_api_Hearing_write [(.agg #[v23, v25]), (.agg #[(.int .i64 n11), (.int .i64 n12), (.int .i64 n13), (.slice x14 l15 c16), (.slice x17 l18 c19)])]
 (fun v36 => TUP v36 fun q38 => HD q38 fun v39 r40 => TYS v39 fun t41 =>
 HD r40 fun v42 r43 => TYI .i64 v42 fun n44 =>
 NL r43 <|
 R (.returned (.tuple #[(.string t41), (.int .i64 n44)])))
 (fun e37 => R (.panicked e37)))
 (fun e21 => R (.panicked e21))
theorem does_book_WriteHearing (W : World) (n1 : Int) (n2 : Int) (n3 : Int) (x4 : Option Addr) (l5 : Nat) (c6 : Nat) (x7 : Option Addr) (l8 : Nat) (c9 : Nat) (R : Ending → Hp → Prop) (s : Hp) (h : T_book_WriteHearing W n1 n2 n3 x4 l5 c6 x7 l8 c9 R s) : Does Pg W F_book_WriteHearing #[(.agg #[(.int .i64 n1), (.int .i64 n2), (.int .i64 n3), (.slice x4 l5 c6), (.slice x7 l8 c9)])] s R :=
  does_of_vfun Pg W an_24 Tryz.func24 rfl (by kernel_rfl) (Eq.mpr (by kernel_rfl) h)
def an_26 : Nat → Ann := fun b => match b with
 | _ => {}
abbrev rv_26 : List ResultVar := [.cell 2 34, .tmp 3]
abbrev rs_26 : List Nat := [9, 2, 3]
def T_book_ReadHearing (W : World) (t1 : ByteArray) (R : Ending → Hp → Prop) : Hp → Prop :=
 NEWZ Pg 34 fun B2 =>
 CALL Pg W F_book_hearingFile []
 (fun v3 => AGG v3 fun q5 => HD q5 fun v6 r7 => HD r7 fun v8 r9 => NL r9 <|
 CALL Pg W F_book_file_api_Hearing_read [(.agg #[v6, v8]), (.string t1)]
 (fun v10 => TUP v10 fun q12 => HD q12 fun v13 r14 => AGG v13 fun q15 => HD q15 fun v16 r17 => TYI .i64 v16 fun n18 =>
 HD r17 fun v19 r20 => TYI .i64 v19 fun n21 =>
 HD r20 fun v22 r23 => TYI .i64 v22 fun n24 =>
 HD r23 fun v25 r26 => TYL v25 fun x27 l28 c29 =>
 HD r26 fun v30 r31 => TYL v30 fun x32 l33 c34 =>
 NL r31 <|
 HD r14 fun v35 r36 => TYI .i64 v35 fun n37 =>
 NL r36 <|
 WR (Addr.add ⟨B2, 0, none⟩ 0) (.int .i64 n18) <|
 WR (Addr.add ⟨B2, 0, none⟩ 1) (.int .i64 n21) <|
 WR (Addr.add ⟨B2, 0, none⟩ 2) (.int .i64 n24) <|
 WR (Addr.add ⟨B2, 0, none⟩ 3) (.slice x27 l28 c29) <|
 WR (Addr.add ⟨B2, 0, none⟩ 4) (.slice x32 l33 c34) <|
 RDI .i64 (Addr.add ⟨B2, 0, none⟩ 0) fun n38 =>
 RDI .i64 (Addr.add ⟨B2, 0, none⟩ 1) fun n39 =>
 RDI .i64 (Addr.add ⟨B2, 0, none⟩ 2) fun n40 =>
 RDL (Addr.add ⟨B2, 0, none⟩ 3) fun x41 l42 c43 =>
 RDL (Addr.add ⟨B2, 0, none⟩ 4) fun x44 l45 c46 =>
 R (.returned (.tuple #[(.agg #[(.int .i64 n38), (.int .i64 n39), (.int .i64 n40), (.slice x41 l42 c43), (.slice x44 l45 c46)]), (.int .i64 n37)])))
 (fun e11 => R (.panicked e11)))
 (fun e4 => R (.panicked e4))
theorem does_book_ReadHearing (W : World) (t1 : ByteArray) (R : Ending → Hp → Prop) (s : Hp) (h : T_book_ReadHearing W t1 R s) : Does Pg W F_book_ReadHearing #[(.string t1)] s R :=
  does_of_vfun Pg W an_26 Tryz.func26 rfl (by kernel_rfl) (Eq.mpr (by kernel_rfl) h)
def an_28 : Nat → Ann := fun b => match b with
 | 0 => { ms := [4, 20], ks := [.l, .i .i64], us := [1, 2, 3, 18, 19, 62], rt := false, ex := [] }
 | 2 => { ms := [4, 46], ks := [.l, .i .i64], us := [2, 3, 44, 45, 62], rt := false, ex := [] }
 | _ => {}
abbrev rv_28 : List ResultVar := [.tmp 2, .tmp 3]
abbrev rs_28 : List Nat := [62, 2, 3]
def L_book_WriteFurrow_0 (W : World) (R : Ending → Hp → Prop) (za0 : Addr) (zp1 : Option Addr) (zl2 : Nat) (zl3 : Nat) (zn4 : Int) (x30 : Option Addr) (l31 : Nat) (c32 : Nat) (n33 : Int) : Hp → Prop :=
 LOOPN [.l, .i .i64] (fun ys next s => ∀ j : Tm, vc Pg W 62 rs_28 an_28 false (sub (bodyOf Tryz.f28) [1, 1, 1, 0, 1, 0, 0]) 0 (KLoop [4, 20] [1, 2, 3, 18, 19, 62] [(.pointer (some za0)), (.slice none 0 0), (.int .i64 0), (.slice zp1 zl2 zl3), (.int .i64 zn4), (.tuple #[])] next (KBlk 0 (KS Pg W 62 rs_28 an_28 false (sub (bodyOf Tryz.f28) [1, 1, 1, 1]) 0 (fin Pg W 62 rv_28 R)))) (known [4, 20] ys (known [1, 2, 3, 18, 19, 62] [(.pointer (some za0)), (.slice none 0 0), (.int .i64 0), (.slice zp1 zl2 zl3), (.int .i64 zn4), (.tuple #[])] j)) s) [(.slice x30 l31 c32), (.int .i64 n33)]
def L_book_WriteFurrow_1 (W : World) (R : Ending → Hp → Prop) (zp0 : Option Addr) (zl1 : Nat) (zl2 : Nat) (zn3 : Int) (x57 : Option Addr) (l58 : Nat) (c59 : Nat) (n60 : Int) : Hp → Prop :=
 LOOPN [.l, .i .i64] (fun ys next s => ∀ j : Tm, vc Pg W 62 rs_28 an_28 false (sub (bodyOf Tryz.f28) [1, 1, 1, 1, 0, 1, 0, 0]) 2 (KLoop [4, 46] [2, 3, 44, 45, 62] [(.slice none 0 0), (.int .i64 0), (.slice zp0 zl1 zl2), (.int .i64 zn3), (.tuple #[])] next (KBlk 2 (KS Pg W 62 rs_28 an_28 false (sub (bodyOf Tryz.f28) [1, 1, 1, 1, 1]) 0 (fin Pg W 62 rv_28 R)))) (known [4, 46] ys (known [2, 3, 44, 45, 62] [(.slice none 0 0), (.int .i64 0), (.slice zp0 zl1 zl2), (.int .i64 zn3), (.tuple #[])] j)) s) [(.slice x57 l58 c59), (.int .i64 n60)]
def B_book_WriteFurrow_0 (W : World) (R : Ending → Hp → Prop) (za0 : Addr) (zp1 : Option Addr) (zl2 : Nat) (zl3 : Nat) (zn4 : Int) (x30 : Option Addr) (l31 : Nat) (c32 : Nat) (n33 : Int) (nx0 : List Value → Hp → Prop) : Hp → Prop :=
 BR (decide (n33 < zn4))
 (IXS zp1 zl2 n33 2 fun a34 =>
 RDI .i64 (Addr.add a34 0) fun n35 =>
 RDI .i64 (Addr.add a34 1) fun n36 =>
 NEWZ Pg 74 fun B37 =>
 WR (Addr.add ⟨B37, 0, none⟩ 0) (.int .i64 n35) <|
 WR (Addr.add ⟨B37, 0, none⟩ 1) (.int .i64 n36) <|
 RDI .i64 (Addr.add ⟨B37, 0, none⟩ 0) fun n38 =>
 RDI .i64 (Addr.add ⟨B37, 0, none⟩ 1) fun n39 =>
 RDI .i64 (Addr.add ⟨B37, 0, none⟩ 0) fun n40 =>
 NEW 5 [(.int .u8 (IntKind.wrap .u8 (IntKind.wrap .i64 ((IntKind.wrap .i64 ((IntKind.wrap .i64 (8 * (IntKind.wrap .i64 (12 + n38)))) + n39)) - n40))))] fun B41 =>
 APP Pg 5 1 x30 l31 c32 (some ⟨B41, 0, none⟩) 1 fun x42 l43 c44 =>
 NX [(.pointer (some za0)), (.slice none 0 0), (.int .i64 0), (.slice zp1 zl2 zl3), (.int .i64 zn4), (.tuple #[])] [(.pointer (some za0)), (.slice none 0 0), (.int .i64 0), (.slice zp1 zl2 zl3), (.int .i64 zn4), (.tuple #[])] (nx0 [(.slice x42 l43 c44), (.int .i64 (IntKind.wrap .i64 (n33 + 1)))]))
 (RDL (Addr.add za0 1) fun x45 l46 c47 =>
 RDL (Addr.add za0 2) fun x48 l49 c50 =>
 NEW 35 [(.slice x45 l46 c47), (.slice x48 l49 c50)] fun B51 =>
 CALL Pg W F_slices_Concat_api_Span_api_Span [(.slice (some ⟨B51, 0, none⟩) 2 2)]
 (fun v52 => TYL v52 fun x54 l55 c56 =>
 L_book_WriteFurrow_1 W R x54 l55 c56 (↑l55 : Int) x30 l31 c32 0)
 (fun e53 => R (.panicked e53)))
theorem B_book_WriteFurrow_0_eq (W : World) (R : Ending → Hp → Prop) (za0 : Addr) (zp1 : Option Addr) (zl2 : Nat) (zl3 : Nat) (zn4 : Int) (x30 : Option Addr) (l31 : Nat) (c32 : Nat) (n33 : Int) (nx0 : List Value → Hp → Prop) (j : Tm) : vc Pg W 62 rs_28 an_28 false (sub (bodyOf Tryz.f28) [1, 1, 1, 0, 1, 0, 0]) 0 (KLoop [4, 20] [1, 2, 3, 18, 19, 62] [(.pointer (some za0)), (.slice none 0 0), (.int .i64 0), (.slice zp1 zl2 zl3), (.int .i64 zn4), (.tuple #[])] nx0 (KBlk 0 (KS Pg W 62 rs_28 an_28 false (sub (bodyOf Tryz.f28) [1, 1, 1, 1]) 0 (fin Pg W 62 rv_28 R)))) (known [4, 20] [(.slice x30 l31 c32), (.int .i64 n33)] (known [1, 2, 3, 18, 19, 62] [(.pointer (some za0)), (.slice none 0 0), (.int .i64 0), (.slice zp1 zl2 zl3), (.int .i64 zn4), (.tuple #[])] j)) = B_book_WriteFurrow_0 W R za0 zp1 zl2 zl3 zn4 x30 l31 c32 n33 nx0 := by kernel_rfl
def N_book_WriteFurrow_0 (I : Option Addr → Nat → Nat → Int → Hp → Prop) (μ : Option Addr → Nat → Nat → Int → Hp → Nat) (x300 : Option Addr) (l310 : Nat) (c320 : Nat) (n330 : Int) (s : Hp) (vs : List Value) : Hp → Prop := fun s' => ∃ x30 l31 c32 n33, vs = [(.slice x30 l31 c32), (.int .i64 n33)] ∧ I x30 l31 c32 n33 s' ∧ μ x30 l31 c32 n33 s' < μ x300 l310 c320 n330 s
theorem L_book_WriteFurrow_0_rule (W : World) (R : Ending → Hp → Prop) (za0 : Addr) (zp1 : Option Addr) (zl2 : Nat) (zl3 : Nat) (zn4 : Int) (I : Option Addr → Nat → Nat → Int → Hp → Prop) (μ : Option Addr → Nat → Nat → Int → Hp → Nat) (x300 : Option Addr) (l310 : Nat) (c320 : Nat) (n330 : Int) (s : Hp) (h0 : I x300 l310 c320 n330 s)
    (hr : ∀ (x30 : Option Addr) (l31 : Nat) (c32 : Nat) (n33 : Int) (s : Hp), I x30 l31 c32 n33 s → B_book_WriteFurrow_0 W R za0 zp1 zl2 zl3 zn4 x30 l31 c32 n33 (fun vs => N_book_WriteFurrow_0 I μ x30 l31 c32 n33 s vs) s) : L_book_WriteFurrow_0 W R za0 zp1 zl2 zl3 zn4 x300 l310 c320 n330 s := by
  refine ⟨fun vs s => ∃ x30 l31 c32 n33, vs = [(.slice x30 l31 c32), (.int .i64 n33)] ∧ I x30 l31 c32 n33 s, fun vs s => (match vs with | [.slice x30 l31 c32, .int _ n33] => μ x30 l31 c32 n33 s | _ => 0), ⟨⟨⟨_, _, _, rfl⟩, ⟨⟨_, rfl⟩, trivial⟩⟩, ⟨_, _, _, _, rfl, h0⟩⟩, ?_⟩
  intro x30 l31 c32 n33 s hI j
  obtain ⟨x30', l31', c32', n33', hy, hI⟩ := hI
  have hI' : I x30 l31 c32 n33 s := by cases hy; exact hI
  have hh := hr x30 l31 c32 n33 s hI'
  rw [← B_book_WriteFurrow_0_eq W R za0 zp1 zl2 zl3 zn4 x30 l31 c32 n33 _ j] at hh
  refine vc_mono ?_ _ _ hh
  exact KLoop_mono (fun vs s' h => by obtain ⟨x301, l311, c321, n331, rfl, h1, h2⟩ := h; exact ⟨⟨⟨_, _, _, rfl⟩, ⟨⟨_, rfl⟩, trivial⟩⟩, ⟨_, _, _, _, rfl, h1⟩, h2⟩)
def B_book_WriteFurrow_1 (W : World) (R : Ending → Hp → Prop) (zp0 : Option Addr) (zl1 : Nat) (zl2 : Nat) (zn3 : Int) (x57 : Option Addr) (l58 : Nat) (c59 : Nat) (n60 : Int) (nx1 : List Value → Hp → Prop) : Hp → Prop :=
 BR (decide (n60 < zn3))
 (IXS zp0 zl1 n60 2 fun a61 =>
 RDI .i64 (Addr.add a61 0) fun n62 =>
 RDI .i64 (Addr.add a61 1) fun n63 =>
 NEWZ Pg 74 fun B64 =>
 WR (Addr.add ⟨B64, 0, none⟩ 0) (.int .i64 n62) <|
 WR (Addr.add ⟨B64, 0, none⟩ 1) (.int .i64 n63) <|
 RDI .i64 (Addr.add ⟨B64, 0, none⟩ 0) fun n65 =>
 RDI .i64 (Addr.add ⟨B64, 0, none⟩ 1) fun n66 =>
 NEW 5 [(.int .u8 (IntKind.wrap .u8 n65)), (.int .u8 (IntKind.wrap .u8 n66))] fun B67 =>
 APP Pg 5 1 x57 l58 c59 (some ⟨B67, 0, none⟩) 2 fun x68 l69 c70 =>
 NX [(.slice none 0 0), (.int .i64 0), (.slice zp0 zl1 zl2), (.int .i64 zn3), (.tuple #[])] [(.slice none 0 0), (.int .i64 0), (.slice zp0 zl1 zl2), (.int .i64 zn3), (.tuple #[])] (nx1 [(.slice x68 l69 c70), (.int .i64 (IntKind.wrap .i64 (n60 + 1)))]))
 (CALL Pg W F_book_checked [(.slice x57 l58 c59)]
 (fun v71 => TYL v71 fun x73 l74 c75 =>
 R (.returned (.tuple #[(.slice x73 l74 c75), (.int .i64 0)])))
 (fun e72 => R (.panicked e72)))
theorem B_book_WriteFurrow_1_eq (W : World) (R : Ending → Hp → Prop) (zp0 : Option Addr) (zl1 : Nat) (zl2 : Nat) (zn3 : Int) (x57 : Option Addr) (l58 : Nat) (c59 : Nat) (n60 : Int) (nx1 : List Value → Hp → Prop) (j : Tm) : vc Pg W 62 rs_28 an_28 false (sub (bodyOf Tryz.f28) [1, 1, 1, 1, 0, 1, 0, 0]) 2 (KLoop [4, 46] [2, 3, 44, 45, 62] [(.slice none 0 0), (.int .i64 0), (.slice zp0 zl1 zl2), (.int .i64 zn3), (.tuple #[])] nx1 (KBlk 2 (KS Pg W 62 rs_28 an_28 false (sub (bodyOf Tryz.f28) [1, 1, 1, 1, 1]) 0 (fin Pg W 62 rv_28 R)))) (known [4, 46] [(.slice x57 l58 c59), (.int .i64 n60)] (known [2, 3, 44, 45, 62] [(.slice none 0 0), (.int .i64 0), (.slice zp0 zl1 zl2), (.int .i64 zn3), (.tuple #[])] j)) = B_book_WriteFurrow_1 W R zp0 zl1 zl2 zn3 x57 l58 c59 n60 nx1 := by kernel_rfl
def N_book_WriteFurrow_1 (I : Option Addr → Nat → Nat → Int → Hp → Prop) (μ : Option Addr → Nat → Nat → Int → Hp → Nat) (x570 : Option Addr) (l580 : Nat) (c590 : Nat) (n600 : Int) (s : Hp) (vs : List Value) : Hp → Prop := fun s' => ∃ x57 l58 c59 n60, vs = [(.slice x57 l58 c59), (.int .i64 n60)] ∧ I x57 l58 c59 n60 s' ∧ μ x57 l58 c59 n60 s' < μ x570 l580 c590 n600 s
theorem L_book_WriteFurrow_1_rule (W : World) (R : Ending → Hp → Prop) (zp0 : Option Addr) (zl1 : Nat) (zl2 : Nat) (zn3 : Int) (I : Option Addr → Nat → Nat → Int → Hp → Prop) (μ : Option Addr → Nat → Nat → Int → Hp → Nat) (x570 : Option Addr) (l580 : Nat) (c590 : Nat) (n600 : Int) (s : Hp) (h0 : I x570 l580 c590 n600 s)
    (hr : ∀ (x57 : Option Addr) (l58 : Nat) (c59 : Nat) (n60 : Int) (s : Hp), I x57 l58 c59 n60 s → B_book_WriteFurrow_1 W R zp0 zl1 zl2 zn3 x57 l58 c59 n60 (fun vs => N_book_WriteFurrow_1 I μ x57 l58 c59 n60 s vs) s) : L_book_WriteFurrow_1 W R zp0 zl1 zl2 zn3 x570 l580 c590 n600 s := by
  refine ⟨fun vs s => ∃ x57 l58 c59 n60, vs = [(.slice x57 l58 c59), (.int .i64 n60)] ∧ I x57 l58 c59 n60 s, fun vs s => (match vs with | [.slice x57 l58 c59, .int _ n60] => μ x57 l58 c59 n60 s | _ => 0), ⟨⟨⟨_, _, _, rfl⟩, ⟨⟨_, rfl⟩, trivial⟩⟩, ⟨_, _, _, _, rfl, h0⟩⟩, ?_⟩
  intro x57 l58 c59 n60 s hI j
  obtain ⟨x57', l58', c59', n60', hy, hI⟩ := hI
  have hI' : I x57 l58 c59 n60 s := by cases hy; exact hI
  have hh := hr x57 l58 c59 n60 s hI'
  rw [← B_book_WriteFurrow_1_eq W R zp0 zl1 zl2 zn3 x57 l58 c59 n60 _ j] at hh
  refine vc_mono ?_ _ _ hh
  exact KLoop_mono (fun vs s' h => by obtain ⟨x571, l581, c591, n601, rfl, h1, h2⟩ := h; exact ⟨⟨⟨_, _, _, rfl⟩, ⟨⟨_, rfl⟩, trivial⟩⟩, ⟨_, _, _, _, rfl, h1⟩, h2⟩)
def T_book_WriteFurrow (W : World) (x1 : Option Addr) (l2 : Nat) (c3 : Nat) (x4 : Option Addr) (l5 : Nat) (c6 : Nat) (x7 : Option Addr) (l8 : Nat) (c9 : Nat) (R : Ending → Hp → Prop) : Hp → Prop :=
 NEW 37 [(.slice x1 l2 c3), (.slice x4 l5 c6), (.slice x7 l8 c9)] fun B10 =>
 RDL (Addr.add ⟨B10, 0, none⟩ 0) fun x11 l12 c13 =>
 RDL (Addr.add ⟨B10, 0, none⟩ 1) fun x14 l15 c16 =>
 RDL (Addr.add ⟨B10, 0, none⟩ 2) fun x17 l18 c19 =>
 CALL Pg W F_book_isFurrow [(.agg #[(.slice x11 l12 c13), (.slice x14 l15 c16), (.slice x17 l18 c19)])]
 (fun v20 => TYB v20 fun b22 =>
 BR (!b22)
 (R (.returned (.tuple #[(.slice none 0 0), (.int .i64 1)])))
 (RDL (Addr.add ⟨B10, 0, none⟩ 0) fun x23 l24 c25 =>
 NEW 5 [(.int .u8 70), (.int .u8 (IntKind.wrap .u8 (↑l24 : Int)))] fun B26 =>
 RDL (Addr.add ⟨B10, 0, none⟩ 0) fun x27 l28 c29 =>
 L_book_WriteFurrow_0 W R ⟨B10, 0, none⟩ x27 l28 c29 (↑l28 : Int) (some ⟨B26, 0, none⟩) 2 2 0))
 (fun e21 => R (.panicked e21))
theorem does_book_WriteFurrow (W : World) (x1 : Option Addr) (l2 : Nat) (c3 : Nat) (x4 : Option Addr) (l5 : Nat) (c6 : Nat) (x7 : Option Addr) (l8 : Nat) (c9 : Nat) (R : Ending → Hp → Prop) (s : Hp) (h : T_book_WriteFurrow W x1 l2 c3 x4 l5 c6 x7 l8 c9 R s) : Does Pg W F_book_WriteFurrow #[(.agg #[(.slice x1 l2 c3), (.slice x4 l5 c6), (.slice x7 l8 c9)])] s R :=
  does_of_vfun Pg W an_28 Tryz.func28 rfl (by kernel_rfl) (Eq.mpr (by kernel_rfl) h)
def an_30 : Nat → Ann := fun b => match b with
 | 0 => { ms := [40], ks := [.i .i64], us := [2, 3, 4, 5, 6, 7, 39, 90], rt := false, ex := [] }
 | 2 => { ms := [60], ks := [.i .i64], us := [2, 3, 4, 6, 7, 59, 90], rt := false, ex := [] }
 | 4 => { ms := [71], ks := [.i .i64], us := [2, 3, 4, 6, 70, 90], rt := false, ex := [] }
 | _ => {}
abbrev rv_30 : List ResultVar := [.cell 2 37, .cell 3 39]
abbrev rs_30 : List Nat := [90, 2, 3]
def L_book_ReadFurrow_0 (W : World) (R : Ending → Hp → Prop) (za0 : Addr) (za1 : Addr) (za2 : Addr) (za3 : Addr) (zn4 : Int) (n124 : Int) : Hp → Prop :=
 LOOPN [.i .i64] (fun ys next s => ∀ j : Tm, vc Pg W 90 rs_30 an_30 false (sub (bodyOf Tryz.f30) [1, 1, 1, 1, 1, 1, 1, 1, 1, 1, 1, 0, 1, 0, 0]) 0 (KLoop [40] [2, 3, 4, 5, 6, 7, 39, 90] [(.pointer (some za0)), (.pointer (some za1)), (.pointer (some za2)), (.pointer (some za3)), (.func (.func 78) #[] #[(.pointer (some za3))]), (.int .i64 zn4), (.int .i64 zn4), (.tuple #[(.func (.func 73) #[] #[(.pointer (some za1)), (.pointer (some za0))]), (.tuple #[])])] next (KBlk 0 (KS Pg W 90 rs_30 an_30 false (sub (bodyOf Tryz.f30) [1, 1, 1, 1, 1, 1, 1, 1, 1, 1, 1, 1]) 0 (fin Pg W 90 rv_30 R)))) (known [40] ys (known [2, 3, 4, 5, 6, 7, 39, 90] [(.pointer (some za0)), (.pointer (some za1)), (.pointer (some za2)), (.pointer (some za3)), (.func (.func 78) #[] #[(.pointer (some za3))]), (.int .i64 zn4), (.int .i64 zn4), (.tuple #[(.func (.func 73) #[] #[(.pointer (some za1)), (.pointer (some za0))]), (.tuple #[])])] j)) s) [(.int .i64 n124)]
def L_book_ReadFurrow_1 (W : World) (R : Ending → Hp → Prop) (za0 : Addr) (za1 : Addr) (za2 : Addr) (za3 : Addr) (zn4 : Int) (n146 : Int) : Hp → Prop :=
 LOOPN [.i .i64] (fun ys next s => ∀ j : Tm, vc Pg W 90 rs_30 an_30 false (sub (bodyOf Tryz.f30) [1, 1, 1, 1, 1, 1, 1, 1, 1, 1, 1, 1, 0, 1, 0, 0]) 2 (KLoop [60] [2, 3, 4, 6, 7, 59, 90] [(.pointer (some za0)), (.pointer (some za1)), (.pointer (some za2)), (.func (.func 78) #[] #[(.pointer (some za3))]), (.int .i64 zn4), (.int .i64 zn4), (.tuple #[(.func (.func 73) #[] #[(.pointer (some za1)), (.pointer (some za0))]), (.tuple #[])])] next (KBlk 2 (KS Pg W 90 rs_30 an_30 false (sub (bodyOf Tryz.f30) [1, 1, 1, 1, 1, 1, 1, 1, 1, 1, 1, 1, 1]) 0 (fin Pg W 90 rv_30 R)))) (known [60] ys (known [2, 3, 4, 6, 7, 59, 90] [(.pointer (some za0)), (.pointer (some za1)), (.pointer (some za2)), (.func (.func 78) #[] #[(.pointer (some za3))]), (.int .i64 zn4), (.int .i64 zn4), (.tuple #[(.func (.func 73) #[] #[(.pointer (some za1)), (.pointer (some za0))]), (.tuple #[])])] j)) s) [(.int .i64 n146)]
def L_book_ReadFurrow_2 (W : World) (R : Ending → Hp → Prop) (za0 : Addr) (za1 : Addr) (za2 : Addr) (za3 : Addr) (zn4 : Int) (n179 : Int) : Hp → Prop :=
 LOOPN [.i .i64] (fun ys next s => ∀ j : Tm, vc Pg W 90 rs_30 an_30 false (sub (bodyOf Tryz.f30) [1, 1, 1, 1, 1, 1, 1, 1, 1, 1, 1, 1, 1, 0, 1, 0, 0]) 4 (KLoop [71] [2, 3, 4, 6, 70, 90] [(.pointer (some za0)), (.pointer (some za1)), (.pointer (some za2)), (.func (.func 78) #[] #[(.pointer (some za3))]), (.int .i64 zn4), (.tuple #[(.func (.func 73) #[] #[(.pointer (some za1)), (.pointer (some za0))]), (.tuple #[])])] next (KBlk 4 (KS Pg W 90 rs_30 an_30 false (sub (bodyOf Tryz.f30) [1, 1, 1, 1, 1, 1, 1, 1, 1, 1, 1, 1, 1, 1]) 0 (fin Pg W 90 rv_30 R)))) (known [71] ys (known [2, 3, 4, 6, 70, 90] [(.pointer (some za0)), (.pointer (some za1)), (.pointer (some za2)), (.func (.func 78) #[] #[(.pointer (some za3))]), (.int .i64 zn4), (.tuple #[(.func (.func 73) #[] #[(.pointer (some za1)), (.pointer (some za0))]), (.tuple #[])])] j)) s) [(.int .i64 n179)]
def J_book_ReadFurrow_0 (W : World) (R : Ending → Hp → Prop) (b227 : Bool) (za0 : Addr) (za1 : Addr) : Hp → Prop :=
 CALL Pg W F_book_need [(.bool b227), (.int .i64 8)]
 (fun v228 => TUP v228 fun q230 => NL q230 <|
 RDL (Addr.add za0 0) fun x231 l232 c233 =>
 RDL (Addr.add za0 1) fun x234 l235 c236 =>
 RDL (Addr.add za0 2) fun x237 l238 c239 =>
 WR (Addr.add za0 0) (.slice x231 l232 c233) <|
 WR (Addr.add za0 1) (.slice x234 l235 c236) <|
 WR (Addr.add za0 2) (.slice x237 l238 c239) <|
 WR (Addr.add za1 0) (.int .i64 0) <|
 DEF Pg W (.tuple #[(.func (.func 73) #[] #[(.pointer (some za1)), (.pointer (some za0))]), (.tuple #[])]) none
 (RDL (Addr.add za0 0) fun x240 l241 c242 =>
 RDL (Addr.add za0 1) fun x243 l244 c245 =>
 RDL (Addr.add za0 2) fun x246 l247 c248 =>
 RDI .i64 za1 fun n249 =>
 R (.returned (.tuple #[(.agg #[(.slice x240 l241 c242), (.slice x243 l244 c245), (.slice x246 l247 c248)]), (.int .i64 n249)]))))
 (fun e229 => DEF Pg W (.tuple #[(.func (.func 73) #[] #[(.pointer (some za1)), (.pointer (some za0))]), (.tuple #[])]) (some e229) (RDL (Addr.add za0 0) fun x250 l251 c252 =>
 RDL (Addr.add za0 1) fun x253 l254 c255 =>
 RDL (Addr.add za0 2) fun x256 l257 c258 =>
 RDI .i64 za1 fun n259 =>
 R (.returned (.tuple #[(.agg #[(.slice x250 l251 c252), (.slice x253 l254 c255), (.slice x256 l257 c258)]), (.int .i64 n259)]))))
def B_book_ReadFurrow_0 (W : World) (R : Ending → Hp → Prop) (za0 : Addr) (za1 : Addr) (za2 : Addr) (za3 : Addr) (zn4 : Int) (n124 : Int) (nx0 : List Value → Hp → Prop) : Hp → Prop :=
 BR (decide (n124 < zn4))
 (RDV za3 fun v125 =>
 CALLV Pg W v125 []
 (fun v126 => TYI .i64 v126 fun n128 =>
 RDL (Addr.add za0 0) fun x129 l130 c131 =>
 NEW 74 [(.int .i64 (IntKind.wrap .i64 ((IntKind.wrap .i64 (Int.tdiv n128 8)) - 12))), (.int .i64 (IntKind.wrap .i64 ((IntKind.wrap .i64 ((IntKind.wrap .i64 (Int.tdiv n128 8)) - 12)) + (Int.tmod n128 8))))] fun B132 =>
 APP Pg 74 2 x129 l130 c131 (some ⟨B132, 0, none⟩) 1 fun x133 l134 c135 =>
 WR (Addr.add (Addr.add za0 0) 0) (.slice x133 l134 c135) <|
 NX [(.pointer (some za0)), (.pointer (some za1)), (.pointer (some za2)), (.pointer (some za3)), (.func (.func 78) #[] #[(.pointer (some za3))]), (.int .i64 zn4), (.int .i64 zn4), (.tuple #[(.func (.func 73) #[] #[(.pointer (some za1)), (.pointer (some za0))]), (.tuple #[])])] [(.pointer (some za0)), (.pointer (some za1)), (.pointer (some za2)), (.pointer (some za3)), (.func (.func 78) #[] #[(.pointer (some za3))]), (.int .i64 zn4), (.int .i64 zn4), (.tuple #[(.func (.func 73) #[] #[(.pointer (some za1)), (.pointer (some za0))]), (.tuple #[])])] (nx0 [(.int .i64 (IntKind.wrap .i64 (n124 + 1)))]))
 (fun e127 => DEF Pg W (.tuple #[(.func (.func 73) #[] #[(.pointer (some za1)), (.pointer (some za0))]), (.tuple #[])]) (some e127) (RDL (Addr.add za0 0) fun x136 l137 c138 =>
 RDL (Addr.add za0 1) fun x139 l140 c141 =>
 RDL (Addr.add za0 2) fun x142 l143 c144 =>
 RDI .i64 za1 fun n145 =>
 R (.returned (.tuple #[(.agg #[(.slice x136 l137 c138), (.slice x139 l140 c141), (.slice x142 l143 c144)]), (.int .i64 n145)])))))
 (L_book_ReadFurrow_1 W R za0 za1 za2 za3 zn4 0)
theorem B_book_ReadFurrow_0_eq (W : World) (R : Ending → Hp → Prop) (za0 : Addr) (za1 : Addr) (za2 : Addr) (za3 : Addr) (zn4 : Int) (n124 : Int) (nx0 : List Value → Hp → Prop) (j : Tm) : vc Pg W 90 rs_30 an_30 false (sub (bodyOf Tryz.f30) [1, 1, 1, 1, 1, 1, 1, 1, 1, 1, 1, 0, 1, 0, 0]) 0 (KLoop [40] [2, 3, 4, 5, 6, 7, 39, 90] [(.pointer (some za0)), (.pointer (some za1)), (.pointer (some za2)), (.pointer (some za3)), (.func (.func 78) #[] #[(.pointer (some za3))]), (.int .i64 zn4), (.int .i64 zn4), (.tuple #[(.func (.func 73) #[] #[(.pointer (some za1)), (.pointer (some za0))]), (.tuple #[])])] nx0 (KBlk 0 (KS Pg W 90 rs_30 an_30 false (sub (bodyOf Tryz.f30) [1, 1, 1, 1, 1, 1, 1, 1, 1, 1, 1, 1]) 0 (fin Pg W 90 rv_30 R)))) (known [40] [(.int .i64 n124)] (known [2, 3, 4, 5, 6, 7, 39, 90] [(.pointer (some za0)), (.pointer (some za1)), (.pointer (some za2)), (.pointer (some za3)), (.func (.func 78) #[] #[(.pointer (some za3))]), (.int .i64 zn4), (.int .i64 zn4), (.tuple #[(.func (.func 73) #[] #[(.pointer (some za1)), (.pointer (some za0))]), (.tuple #[])])] j)) = B_book_ReadFurrow_0 W R za0 za1 za2 za3 zn4 n124 nx0 := by kernel_rfl
def N_book_ReadFurrow_0 (I : Int → Hp → Prop) (μ : Int → Hp → Nat) (n1240 : Int) (s : Hp) (vs : List Value) : Hp → Prop := fun s' => ∃ n124, vs = [(.int .i64 n124)] ∧ I n124 s' ∧ μ n124 s' < μ n1240 s
theorem L_book_ReadFurrow_0_rule (W : World) (R : Ending → Hp → Prop) (za0 : Addr) (za1 : Addr) (za2 : Addr) (za3 : Addr) (zn4 : Int) (I : Int → Hp → Prop) (μ : Int → Hp → Nat) (n1240 : Int) (s : Hp) (h0 : I n1240 s)
    (hr : ∀ (n124 : Int) (s : Hp), I n124 s → B_book_ReadFurrow_0 W R za0 za1 za2 za3 zn4 n124 (fun vs => N_book_ReadFurrow_0 I μ n124 s vs) s) : L_book_ReadFurrow_0 W R za0 za1 za2 za3 zn4 n1240 s := by
  refine ⟨fun vs s => ∃ n124, vs = [(.int .i64 n124)] ∧ I n124 s, fun vs s => (match vs with | [.int _ n124] => μ n124 s | _ => 0), ⟨⟨⟨_, rfl⟩, trivial⟩, ⟨_, rfl, h0⟩⟩, ?_⟩
  intro n124 s hI j
  obtain ⟨n124', hy, hI⟩ := hI
  have hI' : I n124 s := by cases hy; exact hI
  have hh := hr n124 s hI'
  rw [← B_book_ReadFurrow_0_eq W R za0 za1 za2 za3 zn4 n124 _ j] at hh
  refine vc_mono ?_ _ _ hh
  exact KLoop_mono (fun vs s' h => by obtain ⟨n1241, rfl, h1, h2⟩ := h; exact ⟨⟨⟨_, rfl⟩, trivial⟩, ⟨_, rfl, h1⟩, h2⟩)
def B_book_ReadFurrow_1 (W : World) (R : Ending → Hp → Prop) (za0 : Addr) (za1 : Addr) (za2 : Addr) (za3 : Addr) (zn4 : Int) (n146 : Int) (nx1 : List Value → Hp → Prop) : Hp → Prop :=
 BR (decide (n146 < zn4))
 (RDL (Addr.add za0 1) fun x147 l148 c149 =>
 CALLV Pg W (.func (.func 78) #[] #[(.pointer (some za3))]) []
 (fun v150 => AGG v150 fun q152 => HD q152 fun v153 r154 => TYI .i64 v153 fun n155 =>
 HD r154 fun v156 r157 => TYI .i64 v156 fun n158 =>
 NL r157 <|
 ANDS (RDL (Addr.add za0 1) fun x159 l160 c161 =>
 fun _ => ((.slice x159 l160 c161) : Value) = (.slice x147 l148 c149)) <|
 NEW 74 [(.int .i64 n155), (.int .i64 n158)] fun B162 =>
 ANDS (RDL (Addr.add za0 1) fun x163 l164 c165 =>
 fun _ => ((.slice x163 l164 c165) : Value) = (.slice x147 l148 c149)) <|
 APP Pg 74 2 x147 l148 c149 (some ⟨B162, 0, none⟩) 1 fun x166 l167 c168 =>
 WR (Addr.add (Addr.add za0 1) 0) (.slice x166 l167 c168) <|
 NX [(.pointer (some za0)), (.pointer (some za1)), (.pointer (some za2)), (.func (.func 78) #[] #[(.pointer (some za3))]), (.int .i64 zn4), (.int .i64 zn4), (.tuple #[(.func (.func 73) #[] #[(.pointer (some za1)), (.pointer (some za0))]), (.tuple #[])])] [(.pointer (some za0)), (.pointer (some za1)), (.pointer (some za2)), (.func (.func 78) #[] #[(.pointer (some za3))]), (.int .i64 zn4), (.int .i64 zn4), (.tuple #[(.func (.func 73) #[] #[(.pointer (some za1)), (.pointer (some za0))]), (.tuple #[])])] (nx1 [(.int .i64 (IntKind.wrap .i64 (n146 + 1)))]))
 (fun e151 => DEF Pg W (.tuple #[(.func (.func 73) #[] #[(.pointer (some za1)), (.pointer (some za0))]), (.tuple #[])]) (some e151) (RDL (Addr.add za0 0) fun x169 l170 c171 =>
 RDL (Addr.add za0 1) fun x172 l173 c174 =>
 RDL (Addr.add za0 2) fun x175 l176 c177 =>
 RDI .i64 za1 fun n178 =>
 R (.returned (.tuple #[(.agg #[(.slice x169 l170 c171), (.slice x172 l173 c174), (.slice x175 l176 c177)]), (.int .i64 n178)])))))
 (L_book_ReadFurrow_2 W R za0 za1 za2 za3 zn4 0)
theorem B_book_ReadFurrow_1_eq (W : World) (R : Ending → Hp → Prop) (za0 : Addr) (za1 : Addr) (za2 : Addr) (za3 : Addr) (zn4 : Int) (n146 : Int) (nx1 : List Value → Hp → Prop) (j : Tm) : vc Pg W 90 rs_30 an_30 false (sub (bodyOf Tryz.f30) [1, 1, 1, 1, 1, 1, 1, 1, 1, 1, 1, 1, 0, 1, 0, 0]) 2 (KLoop [60] [2, 3, 4, 6, 7, 59, 90] [(.pointer (some za0)), (.pointer (some za1)), (.pointer (some za2)), (.func (.func 78) #[] #[(.pointer (some za3))]), (.int .i64 zn4), (.int .i64 zn4), (.tuple #[(.func (.func 73) #[] #[(.pointer (some za1)), (.pointer (some za0))]), (.tuple #[])])] nx1 (KBlk 2 (KS Pg W 90 rs_30 an_30 false (sub (bodyOf Tryz.f30) [1, 1, 1, 1, 1, 1, 1, 1, 1, 1, 1, 1, 1]) 0 (fin Pg W 90 rv_30 R)))) (known [60] [(.int .i64 n146)] (known [2, 3, 4, 6, 7, 59, 90] [(.pointer (some za0)), (.pointer (some za1)), (.pointer (some za2)), (.func (.func 78) #[] #[(.pointer (some za3))]), (.int .i64 zn4), (.int .i64 zn4), (.tuple #[(.func (.func 73) #[] #[(.pointer (some za1)), (.pointer (some za0))]), (.tuple #[])])] j)) = B_book_ReadFurrow_1 W R za0 za1 za2 za3 zn4 n146 nx1 := by kernel_rfl
def N_book_ReadFurrow_1 (I : Int → Hp → Prop) (μ : Int → Hp → Nat) (n1460 : Int) (s : Hp) (vs : List Value) : Hp → Prop := fun s' => ∃ n146, vs = [(.int .i64 n146)] ∧ I n146 s' ∧ μ n146 s' < μ n1460 s
theorem L_book_ReadFurrow_1_rule (W : World) (R : Ending → Hp → Prop) (za0 : Addr) (za1 : Addr) (za2 : Addr) (za3 : Addr) (zn4 : Int) (I : Int → Hp → Prop) (μ : Int → Hp → Nat) (n1460 : Int) (s : Hp) (h0 : I n1460 s)
    (hr : ∀ (n146 : Int) (s : Hp), I n146 s → B_book_ReadFurrow_1 W R za0 za1 za2 za3 zn4 n146 (fun vs => N_book_ReadFurrow_1 I μ n146 s vs) s) : L_book_ReadFurrow_1 W R za0 za1 za2 za3 zn4 n1460 s := by
  refine ⟨fun vs s => ∃ n146, vs = [(.int .i64 n146)] ∧ I n146 s, fun vs s => (match vs with | [.int _ n146] => μ n146 s | _ => 0), ⟨⟨⟨_, rfl⟩, trivial⟩, ⟨_, rfl, h0⟩⟩, ?_⟩
  intro n146 s hI j
  obtain ⟨n146', hy, hI⟩ := hI
  have hI' : I n146 s := by cases hy; exact hI
  have hh := hr n146 s hI'
  rw [← B_book_ReadFurrow_1_eq W R za0 za1 za2 za3 zn4 n146 _ j] at hh
  refine vc_mono ?_ _ _ hh
  exact KLoop_mono (fun vs s' h => by obtain ⟨n1461, rfl, h1, h2⟩ := h; exact ⟨⟨⟨_, rfl⟩, trivial⟩, ⟨_, rfl, h1⟩, h2⟩)
def B_book_ReadFurrow_2 (W : World) (R : Ending → Hp → Prop) (za0 : Addr) (za1 : Addr) (za2 : Addr) (za3 : Addr) (zn4 : Int) (n179 : Int) (nx2 : List Value → Hp → Prop) : Hp → Prop :=
 BR (decide (n179 < zn4))
 (RDL (Addr.add za0 2) fun x180 l181 c182 =>
 CALLV Pg W (.func (.func 78) #[] #[(.pointer (some za3))]) []
 (fun v183 => AGG v183 fun q185 => HD q185 fun v186 r187 => TYI .i64 v186 fun n188 =>
 HD r187 fun v189 r190 => TYI .i64 v189 fun n191 =>
 NL r190 <|
 ANDS (RDL (Addr.add za0 2) fun x192 l193 c194 =>
 fun _ => ((.slice x192 l193 c194) : Value) = (.slice x180 l181 c182)) <|
 NEW 74 [(.int .i64 n188), (.int .i64 n191)] fun B195 =>
 ANDS (RDL (Addr.add za0 2) fun x196 l197 c198 =>
 fun _ => ((.slice x196 l197 c198) : Value) = (.slice x180 l181 c182)) <|
 APP Pg 74 2 x180 l181 c182 (some ⟨B195, 0, none⟩) 1 fun x199 l200 c201 =>
 WR (Addr.add (Addr.add za0 2) 0) (.slice x199 l200 c201) <|
 NX [(.pointer (some za0)), (.pointer (some za1)), (.pointer (some za2)), (.func (.func 78) #[] #[(.pointer (some za3))]), (.int .i64 zn4), (.tuple #[(.func (.func 73) #[] #[(.pointer (some za1)), (.pointer (some za0))]), (.tuple #[])])] [(.pointer (some za0)), (.pointer (some za1)), (.pointer (some za2)), (.func (.func 78) #[] #[(.pointer (some za3))]), (.int .i64 zn4), (.tuple #[(.func (.func 73) #[] #[(.pointer (some za1)), (.pointer (some za0))]), (.tuple #[])])] (nx2 [(.int .i64 (IntKind.wrap .i64 (n179 + 1)))]))
 (fun e184 => DEF Pg W (.tuple #[(.func (.func 73) #[] #[(.pointer (some za1)), (.pointer (some za0))]), (.tuple #[])]) (some e184) (RDL (Addr.add za0 0) fun x202 l203 c204 =>
 RDL (Addr.add za0 1) fun x205 l206 c207 =>
 RDL (Addr.add za0 2) fun x208 l209 c210 =>
 RDI .i64 za1 fun n211 =>
 R (.returned (.tuple #[(.agg #[(.slice x202 l203 c204), (.slice x205 l206 c207), (.slice x208 l209 c210)]), (.int .i64 n211)])))))
 (RDL za2 fun x212 l213 c214 =>
 BR ((↑l213 : Int) == 0)
 (RDL (Addr.add za0 0) fun x215 l216 c217 =>
 RDL (Addr.add za0 1) fun x218 l219 c220 =>
 RDL (Addr.add za0 2) fun x221 l222 c223 =>
 CALL Pg W F_book_isFurrow [(.agg #[(.slice x215 l216 c217), (.slice x218 l219 c220), (.slice x221 l222 c223)])]
 (fun v224 => TYB v224 fun b226 =>
 J_book_ReadFurrow_0 W R b226 za0 za1)
 (fun e225 => DEF Pg W (.tuple #[(.func (.func 73) #[] #[(.pointer (some za1)), (.pointer (some za0))]), (.tuple #[])]) (some e225) (RDL (Addr.add za0 0) fun x260 l261 c262 =>
 RDL (Addr.add za0 1) fun x263 l264 c265 =>
 RDL (Addr.add za0 2) fun x266 l267 c268 =>
 RDI .i64 za1 fun n269 =>
 R (.returned (.tuple #[(.agg #[(.slice x260 l261 c262), (.slice x263 l264 c265), (.slice x266 l267 c268)]), (.int .i64 n269)])))))
 (J_book_ReadFurrow_0 W R false za0 za1))
theorem B_book_ReadFurrow_2_eq (W : World) (R : Ending → Hp → Prop) (za0 : Addr) (za1 : Addr) (za2 : Addr) (za3 : Addr) (zn4 : Int) (n179 : Int) (nx2 : List Value → Hp → Prop) (j : Tm) : vc Pg W 90 rs_30 an_30 false (sub (bodyOf Tryz.f30) [1, 1, 1, 1, 1, 1, 1, 1, 1, 1, 1, 1, 1, 0, 1, 0, 0]) 4 (KLoop [71] [2, 3, 4, 6, 70, 90] [(.pointer (some za0)), (.pointer (some za1)), (.pointer (some za2)), (.func (.func 78) #[] #[(.pointer (some za3))]), (.int .i64 zn4), (.tuple #[(.func (.func 73) #[] #[(.pointer (some za1)), (.pointer (some za0))]), (.tuple #[])])] nx2 (KBlk 4 (KS Pg W 90 rs_30 an_30 false (sub (bodyOf Tryz.f30) [1, 1, 1, 1, 1, 1, 1, 1, 1, 1, 1, 1, 1, 1]) 0 (fin Pg W 90 rv_30 R)))) (known [71] [(.int .i64 n179)] (known [2, 3, 4, 6, 70, 90] [(.pointer (some za0)), (.pointer (some za1)), (.pointer (some za2)), (.func (.func 78) #[] #[(.pointer (some za3))]), (.int .i64 zn4), (.tuple #[(.func (.func 73) #[] #[(.pointer (some za1)), (.pointer (some za0))]), (.tuple #[])])] j)) = B_book_ReadFurrow_2 W R za0 za1 za2 za3 zn4 n179 nx2 := by kernel_rfl
def N_book_ReadFurrow_2 (I : Int → Hp → Prop) (μ : Int → Hp → Nat) (n1790 : Int) (s : Hp) (vs : List Value) : Hp → Prop := fun s' => ∃ n179, vs = [(.int .i64 n179)] ∧ I n179 s' ∧ μ n179 s' < μ n1790 s
theorem L_book_ReadFurrow_2_rule (W : World) (R : Ending → Hp → Prop) (za0 : Addr) (za1 : Addr) (za2 : Addr) (za3 : Addr) (zn4 : Int) (I : Int → Hp → Prop) (μ : Int → Hp → Nat) (n1790 : Int) (s : Hp) (h0 : I n1790 s)
    (hr : ∀ (n179 : Int) (s : Hp), I n179 s → B_book_ReadFurrow_2 W R za0 za1 za2 za3 zn4 n179 (fun vs => N_book_ReadFurrow_2 I μ n179 s vs) s) : L_book_ReadFurrow_2 W R za0 za1 za2 za3 zn4 n1790 s := by
  refine ⟨fun vs s => ∃ n179, vs = [(.int .i64 n179)] ∧ I n179 s, fun vs s => (match vs with | [.int _ n179] => μ n179 s | _ => 0), ⟨⟨⟨_, rfl⟩, trivial⟩, ⟨_, rfl, h0⟩⟩, ?_⟩
  intro n179 s hI j
  obtain ⟨n179', hy, hI⟩ := hI
  have hI' : I n179 s := by cases hy; exact hI
  have hh := hr n179 s hI'
  rw [← B_book_ReadFurrow_2_eq W R za0 za1 za2 za3 zn4 n179 _ j] at hh
  refine vc_mono ?_ _ _ hh
  exact KLoop_mono (fun vs s' h => by obtain ⟨n1791, rfl, h1, h2⟩ := h; exact ⟨⟨⟨_, rfl⟩, trivial⟩, ⟨_, rfl, h1⟩, h2⟩)
def T_book_ReadFurrow (W : World) (x1 : Option Addr) (l2 : Nat) (c3 : Nat) (R : Ending → Hp → Prop) : Hp → Prop :=
 NEWZ Pg 37 fun B4 =>
 NEWZ Pg 39 fun B5 =>
 CALL Pg W F_book_need [(.bool (decide ((↑l2 : Int) ≤ 2000))), (.int .i64 3)]
 (fun v6 => TUP v6 fun q8 => NL q8 <|
 CALL Pg W F_book_need [(.bool (decide ((↑l2 : Int) ≥ 2))), (.int .i64 11)]
 (fun v9 => TUP v9 fun q11 => NL q11 <|
 MKS Pg 5 (IntKind.wrap .i64 ((↑l2 : Int) - 2)) (IntKind.wrap .i64 ((↑l2 : Int) - 2)) fun B12 =>
 NEWZ Pg 50 fun B13 =>
 WR (Addr.add ⟨B13, 0, none⟩ 0) (.slice (some ⟨B12, 0, none⟩) (Int.toNat (IntKind.wrap .i64 ((↑l2 : Int) - 2))) (Int.toNat (IntKind.wrap .i64 ((↑l2 : Int) - 2)))) <|
 RDL ⟨B13, 0, none⟩ fun x14 l15 c16 =>
 COPY 1 x14 l15 x1 l2 fun n17 =>
 RDL ⟨B13, 0, none⟩ fun x18 l19 c20 =>
 CALL Pg W F_book_checked [(.slice x18 l19 c20)]
 (fun v21 => TYL v21 fun x23 l24 c25 =>
 CALL Pg W F_slices_Equal_byte_byte [(.slice x23 l24 c25), (.slice x1 l2 c3)]
 (fun v26 => TYB v26 fun b28 =>
 CALL Pg W F_book_need [(.bool b28), (.int .i64 11)]
 (fun v29 => TUP v29 fun q31 => NL q31 <|
 NEWZ Pg 131 fun B32 =>
 WR (Addr.add ⟨B32, 0, none⟩ 0) (.func (.func 77) #[] #[(.pointer (some ⟨B13, 0, none⟩))]) <|
 RDV ⟨B32, 0, none⟩ fun v33 =>
 CALLV Pg W v33 []
 (fun v34 => TYI .i64 v34 fun n36 =>
 CALL Pg W F_book_need [(.bool (n36 == 70)), (.int .i64 8)]
 (fun v37 => TUP v37 fun q39 => NL q39 <|
 RDV ⟨B32, 0, none⟩ fun v40 =>
 CALLV Pg W v40 []
 (fun v41 => TYI .i64 v41 fun n43 =>
 L_book_ReadFurrow_0 W R ⟨B4, 0, none⟩ ⟨B5, 0, none⟩ ⟨B13, 0, none⟩ ⟨B32, 0, none⟩ n43 0)
 (fun e42 => DEF Pg W (.tuple #[(.func (.func 73) #[] #[(.pointer (some ⟨B5, 0, none⟩)), (.pointer (some ⟨B4, 0, none⟩))]), (.tuple #[])]) (some e42) (RDL (Addr.add ⟨B4, 0, none⟩ 0) fun x44 l45 c46 =>
 RDL (Addr.add ⟨B4, 0, none⟩ 1) fun x47 l48 c49 =>
 RDL (Addr.add ⟨B4, 0, none⟩ 2) fun x50 l51 c52 =>
 RDI .i64 ⟨B5, 0, none⟩ fun n53 =>
 R (.returned (.tuple #[(.agg #[(.slice x44 l45 c46), (.slice x47 l48 c49), (.slice x50 l51 c52)]), (.int .i64 n53)])))))
 (fun e38 => DEF Pg W (.tuple #[(.func (.func 73) #[] #[(.pointer (some ⟨B5, 0, none⟩)), (.pointer (some ⟨B4, 0, none⟩))]), (.tuple #[])]) (some e38) (RDL (Addr.add ⟨B4, 0, none⟩ 0) fun x54 l55 c56 =>
 RDL (Addr.add ⟨B4, 0, none⟩ 1) fun x57 l58 c59 =>
 RDL (Addr.add ⟨B4, 0, none⟩ 2) fun x60 l61 c62 =>
 RDI .i64 ⟨B5, 0, none⟩ fun n63 =>
 R (.returned (.tuple #[(.agg #[(.slice x54 l55 c56), (.slice x57 l58 c59), (.slice x60 l61 c62)]), (.int .i64 n63)])))))
 (fun e35 => DEF Pg W (.tuple #[(.func (.func 73) #[] #[(.pointer (some ⟨B5, 0, none⟩)), (.pointer (some ⟨B4, 0, none⟩))]), (.tuple #[])]) (some e35) (RDL (Addr.add ⟨B4, 0, none⟩ 0) fun x64 l65 c66 =>
 RDL (Addr.add ⟨B4, 0, none⟩ 1) fun x67 l68 c69 =>
 RDL (Addr.add ⟨B4, 0, none⟩ 2) fun x70 l71 c72 =>
 RDI .i64 ⟨B5, 0, none⟩ fun n73 =>
 R (.returned (.tuple #[(.agg #[(.slice x64 l65 c66), (.slice x67 l68 c69), (.slice x70 l71 c72)]), (.int .i64 n73)])))))
 (fun e30 => DEF Pg W (.tuple #[(.func (.func 73) #[] #[(.pointer (some ⟨B5, 0, none⟩)), (.pointer (some ⟨B4, 0, none⟩))]), (.tuple #[])]) (some e30) (RDL (Addr.add ⟨B4, 0, none⟩ 0) fun x74 l75 c76 =>
 RDL (Addr.add ⟨B4, 0, none⟩ 1) fun x77 l78 c79 =>
 RDL (Addr.add ⟨B4, 0, none⟩ 2) fun x80 l81 c82 =>
 RDI .i64 ⟨B5, 0, none⟩ fun n83 =>
 R (.returned (.tuple #[(.agg #[(.slice x74 l75 c76), (.slice x77 l78 c79), (.slice x80 l81 c82)]), (.int .i64 n83)])))))
 (fun e27 => DEF Pg W (.tuple #[(.func (.func 73) #[] #[(.pointer (some ⟨B5, 0, none⟩)), (.pointer (some ⟨B4, 0, none⟩))]), (.tuple #[])]) (some e27) (RDL (Addr.add ⟨B4, 0, none⟩ 0) fun x84 l85 c86 =>
 RDL (Addr.add ⟨B4, 0, none⟩ 1) fun x87 l88 c89 =>
 RDL (Addr.add ⟨B4, 0, none⟩ 2) fun x90 l91 c92 =>
 RDI .i64 ⟨B5, 0, none⟩ fun n93 =>
 R (.returned (.tuple #[(.agg #[(.slice x84 l85 c86), (.slice x87 l88 c89), (.slice x90 l91 c92)]), (.int .i64 n93)])))))
 (fun e22 => DEF Pg W (.tuple #[(.func (.func 73) #[] #[(.pointer (some ⟨B5, 0, none⟩)), (.pointer (some ⟨B4, 0, none⟩))]), (.tuple #[])]) (some e22) (RDL (Addr.add ⟨B4, 0, none⟩ 0) fun x94 l95 c96 =>
 RDL (Addr.add ⟨B4, 0, none⟩ 1) fun x97 l98 c99 =>
 RDL (Addr.add ⟨B4, 0, none⟩ 2) fun x100 l101 c102 =>
 RDI .i64 ⟨B5, 0, none⟩ fun n103 =>
 R (.returned (.tuple #[(.agg #[(.slice x94 l95 c96), (.slice x97 l98 c99), (.slice x100 l101 c102)]), (.int .i64 n103)])))))
 (fun e10 => DEF Pg W (.tuple #[(.func (.func 73) #[] #[(.pointer (some ⟨B5, 0, none⟩)), (.pointer (some ⟨B4, 0, none⟩))]), (.tuple #[])]) (some e10) (RDL (Addr.add ⟨B4, 0, none⟩ 0) fun x104 l105 c106 =>
 RDL (Addr.add ⟨B4, 0, none⟩ 1) fun x107 l108 c109 =>
 RDL (Addr.add ⟨B4, 0, none⟩ 2) fun x110 l111 c112 =>
 RDI .i64 ⟨B5, 0, none⟩ fun n113 =>
 R (.returned (.tuple #[(.agg #[(.slice x104 l105 c106), (.slice x107 l108 c109), (.slice x110 l111 c112)]), (.int .i64 n113)])))))
 (fun e7 => DEF Pg W (.tuple #[(.func (.func 73) #[] #[(.pointer (some ⟨B5, 0, none⟩)), (.pointer (some ⟨B4, 0, none⟩))]), (.tuple #[])]) (some e7) (RDL (Addr.add ⟨B4, 0, none⟩ 0) fun x114 l115 c116 =>
 RDL (Addr.add ⟨B4, 0, none⟩ 1) fun x117 l118 c119 =>
 RDL (Addr.add ⟨B4, 0, none⟩ 2) fun x120 l121 c122 =>
 RDI .i64 ⟨B5, 0, none⟩ fun n123 =>
 R (.returned (.tuple #[(.agg #[(.slice x114 l115 c116), (.slice x117 l118 c119), (.slice x120 l121 c122)]), (.int .i64 n123)]))))
theorem does_book_ReadFurrow (W : World) (x1 : Option Addr) (l2 : Nat) (c3 : Nat) (R : Ending → Hp → Prop) (s : Hp) (h : T_book_ReadFurrow W x1 l2 c3 R s) : Does Pg W F_book_ReadFurrow #[(.slice x1 l2 c3)] s R :=
  does_of_vfun Pg W an_30 Tryz.func30 rfl (by kernel_rfl) (Eq.mpr (by kernel_rfl) h)
def an_52 : Nat → Ann := fun b => match b with
 | _ => {}
abbrev rv_52 : List ResultVar := [.cell 0 99]
abbrev rs_52 : List Nat := [2, 0]
def T_book_pegsFile (W : World) (R : Ending → Hp → Prop) : Hp → Prop :=
 NEWZ Pg 99 fun B1 =>
 WR (Addr.add ⟨B1, 0, none⟩ 0) (.func (.func 94) #[] #[]) <|
 WR (Addr.add ⟨B1, 0, none⟩ 1) (.func (.func 95) #[] #[]) <|
 RDV (Addr.add ⟨B1, 0, none⟩ 0) fun v2 =>
 RDV (Addr.add ⟨B1, 0, none⟩ 1) fun v3 =>
 R (.returned (.agg #[v2, v3]))
theorem does_book_pegsFile (W : World) (R : Ending → Hp → Prop) (s : Hp) (h : T_book_pegsFile W R s) : Does Pg W F_book_pegsFile #[] s R :=
  does_of_vfun Pg W an_52 Tryz.func52 rfl (by kernel_rfl) (Eq.mpr (by kernel_rfl) h)
def an_53 : Nat → Ann := fun b => match b with
 | _ => {}
abbrev rv_53 : List ResultVar := [.tmp 4, .tmp 5]
abbrev rs_53 : List Nat := [19, 4, 5]
def T_book_file_api_Pegs_write (W : World) (v1 : Value) (v2 : Value) (n3 : Int) (x4 : Option Addr) (l5 : Nat) (c6 : Nat) (x7 : Option Addr) (l8 : Nat) (c9 : Nat) (R : Ending → Hp → Prop) : Hp → Prop :=
 NEW 99 [v1, v2] fun B10 =>
 NEW 25 [(.int .i64 n3), (.slice x4 l5 c6), (.slice x7 l8 c9)] fun B11 =>
 RDV (Addr.add ⟨B10, 0, none⟩ 0) fun v12 =>
 RDI .i64 (Addr.add ⟨B11, 0, none⟩ 0) fun n13 =>
 RDL (Addr.add ⟨B11, 0, none⟩ 1) fun x14 l15 c16 =>
 RDL (Addr.add ⟨B11, 0, none⟩ 2) fun x17 l18 c19 =>
 CALLV Pg W v12 [(.agg #[(.int .i64 n13), (.slice x14 l15 c16), (.slice x17 l18 c19)])]
 (fun v20 => INV Pg W v20 "furrowworks/book.text" []
 (fun v22 => TUP v22 fun q24 => HD q24 fun v25 r26 => TYS v25 fun t27 =>
 HD r26 fun v28 r29 => TYB v28 fun b30 =>
 NL r29 <|
 BR (!b30)
 (R (.returned (.tuple #[(.string ⟨#[]⟩), (.int .i64 1)])))
 (R (.returned (.tuple #[(.string t27), (.int .i64 0)]))))
 (fun e23 => R (.panicked e23)))
 (fun e21 => R (.panicked e21))
theorem does_book_file_api_Pegs_write (W : World) (v1 : Value) (v2 : Value) (n3 : Int) (x4 : Option Addr) (l5 : Nat) (c6 : Nat) (x7 : Option Addr) (l8 : Nat) (c9 : Nat) (R : Ending → Hp → Prop) (s : Hp) (h : T_book_file_api_Pegs_write W v1 v2 n3 x4 l5 c6 x7 l8 c9 R s) : Does Pg W F_book_file_api_Pegs_write #[(.agg #[v1, v2]), (.agg #[(.int .i64 n3), (.slice x4 l5 c6), (.slice x7 l8 c9)])] s R :=
  does_of_vfun Pg W an_53 Tryz.func53 rfl (by kernel_rfl) (Eq.mpr (by kernel_rfl) h)
def an_56 : Nat → Ann := fun b => match b with
 | _ => {}
abbrev rv_56 : List ResultVar := [.cell 4 25, .cell 5 39]
abbrev rs_56 : List Nat := [20, 4, 5]
def T_book_file_api_Pegs_read (W : World) (v1 : Value) (v2 : Value) (t3 : ByteArray) (R : Ending → Hp → Prop) : Hp → Prop :=
 NEW 99 [v1, v2] fun B4 =>
 NEWZ Pg 25 fun B5 =>
 NEWZ Pg 39 fun B6 =>
 NEWZ Pg 25 fun B7 =>
 RDV (Addr.add ⟨B4, 0, none⟩ 0) fun v8 =>
 RDI .i64 (Addr.add ⟨B7, 0, none⟩ 0) fun n9 =>
 RDL (Addr.add ⟨B7, 0, none⟩ 1) fun x10 l11 c12 =>
 RDL (Addr.add ⟨B7, 0, none⟩ 2) fun x13 l14 c15 =>
 CALLV Pg W v8 [(.agg #[(.int .i64 n9), (.slice x10 l11 c12), (.slice x13 l14 c15)])]
 (fun v16 => CALL Pg W F_book_fill [v16, (.string t3)]
 (fun v18 => TUP v18 fun q20 => NL q20 <|
 RDV (Addr.add ⟨B4, 0, none⟩ 1) fun v21 =>
 CALLV Pg W v21 [v16]
 (fun v22 => AGG v22 fun q24 => HD q24 fun v25 r26 => TYI .i64 v25 fun n27 =>
 HD r26 fun v28 r29 => TYL v28 fun x30 l31 c32 =>
 HD r29 fun v33 r34 => TYL v33 fun x35 l36 c37 =>
 NL r34 <|
 WR (Addr.add ⟨B5, 0, none⟩ 0) (.int .i64 n27) <|
 WR (Addr.add ⟨B5, 0, none⟩ 1) (.slice x30 l31 c32) <|
 WR (Addr.add ⟨B5, 0, none⟩ 2) (.slice x35 l36 c37) <|
 WR (Addr.add ⟨B6, 0, none⟩ 0) (.int .i64 0) <|
 DEF Pg W (.tuple #[(.func (.func 97) #[] #[(.pointer (some ⟨B6, 0, none⟩))]), (.tuple #[])]) none
 (RDI .i64 (Addr.add ⟨B5, 0, none⟩ 0) fun n38 =>
 RDL (Addr.add ⟨B5, 0, none⟩ 1) fun x39 l40 c41 =>
 RDL (Addr.add ⟨B5, 0, none⟩ 2) fun x42 l43 c44 =>
 RDI .i64 ⟨B6, 0, none⟩ fun n45 =>
 R (.returned (.tuple #[(.agg #[(.int .i64 n38), (.slice x39 l40 c41), (.slice x42 l43 c44)]), (.int .i64 n45)]))))
 (fun e23 => DEF Pg W (.tuple #[(.func (.func 97) #[] #[(.pointer (some ⟨B6, 0, none⟩))]), (.tuple #[])]) (some e23) (RDI .i64 (Addr.add ⟨B5, 0, none⟩ 0) fun n46 =>
 RDL (Addr.add ⟨B5, 0, none⟩ 1) fun x47 l48 c49 =>
 RDL (Addr.add ⟨B5, 0, none⟩ 2) fun x50 l51 c52 =>
 RDI .i64 ⟨B6, 0, none⟩ fun n53 =>
 R (.returned (.tuple #[(.agg #[(.int .i64 n46), (.slice x47 l48 c49), (.slice x50 l51 c52)]), (.int .i64 n53)])))))
 (fun e19 => DEF Pg W (.tuple #[(.func (.func 97) #[] #[(.pointer (some ⟨B6, 0, none⟩))]), (.tuple #[])]) (some e19) (RDI .i64 (Addr.add ⟨B5, 0, none⟩ 0) fun n54 =>
 RDL (Addr.add ⟨B5, 0, none⟩ 1) fun x55 l56 c57 =>
 RDL (Addr.add ⟨B5, 0, none⟩ 2) fun x58 l59 c60 =>
 RDI .i64 ⟨B6, 0, none⟩ fun n61 =>
 R (.returned (.tuple #[(.agg #[(.int .i64 n54), (.slice x55 l56 c57), (.slice x58 l59 c60)]), (.int .i64 n61)])))))
 (fun e17 => DEF Pg W (.tuple #[(.func (.func 97) #[] #[(.pointer (some ⟨B6, 0, none⟩))]), (.tuple #[])]) (some e17) (RDI .i64 (Addr.add ⟨B5, 0, none⟩ 0) fun n62 =>
 RDL (Addr.add ⟨B5, 0, none⟩ 1) fun x63 l64 c65 =>
 RDL (Addr.add ⟨B5, 0, none⟩ 2) fun x66 l67 c68 =>
 RDI .i64 ⟨B6, 0, none⟩ fun n69 =>
 R (.returned (.tuple #[(.agg #[(.int .i64 n62), (.slice x63 l64 c65), (.slice x66 l67 c68)]), (.int .i64 n69)]))))
theorem does_book_file_api_Pegs_read (W : World) (v1 : Value) (v2 : Value) (t3 : ByteArray) (R : Ending → Hp → Prop) (s : Hp) (h : T_book_file_api_Pegs_read W v1 v2 t3 R s) : Does Pg W F_book_file_api_Pegs_read #[(.agg #[v1, v2]), (.string t3)] s R :=
  does_of_vfun Pg W an_56 Tryz.func56 rfl (by kernel_rfl) (Eq.mpr (by kernel_rfl) h)
def an_59 : Nat → Ann := fun b => match b with
 | _ => {}
abbrev rv_59 : List ResultVar := [.cell 0 111]
abbrev rs_59 : List Nat := [2, 0]
def T_book_panelsFile (W : World) (R : Ending → Hp → Prop) : Hp → Prop :=
 NEWZ Pg 111 fun B1 =>
 WR (Addr.add ⟨B1, 0, none⟩ 0) (.func (.func 102) #[] #[]) <|
 WR (Addr.add ⟨B1, 0, none⟩ 1) (.func (.func 103) #[] #[]) <|
 RDV (Addr.add ⟨B1, 0, none⟩ 0) fun v2 =>
 RDV (Addr.add ⟨B1, 0, none⟩ 1) fun v3 =>
 R (.returned (.agg #[v2, v3]))
theorem does_book_panelsFile (W : World) (R : Ending → Hp → Prop) (s : Hp) (h : T_book_panelsFile W R s) : Does Pg W F_book_panelsFile #[] s R :=
  does_of_vfun Pg W an_59 Tryz.func59 rfl (by kernel_rfl) (Eq.mpr (by kernel_rfl) h)
def an_60 : Nat → Ann := fun b => match b with
 | _ => {}
abbrev rv_60 : List ResultVar := [.tmp 4, .tmp 5]
abbrev rs_60 : List Nat := [19, 4, 5]
def T_book_file_api_Panels_write (W : World) (v1 : Value) (v2 : Value) (x3 : Option Addr) (l4 : Nat) (c5 : Nat) (x6 : Option Addr) (l7 : Nat) (c8 : Nat) (x9 : Option Addr) (l10 : Nat) (c11 : Nat) (R : Ending → Hp → Prop) : Hp → Prop :=
 NEW 111 [v1, v2] fun B12 =>
 NEW 29 [(.slice x3 l4 c5), (.slice x6 l7 c8), (.slice x9 l10 c11)] fun B13 =>
 RDV (Addr.add ⟨B12, 0, none⟩ 0) fun v14 =>
 RDL (Addr.add ⟨B13, 0, none⟩ 0) fun x15 l16 c17 =>
 RDL (Addr.add ⟨B13, 0, none⟩ 1) fun x18 l19 c20 =>
 RDL (Addr.add ⟨B13, 0, none⟩ 2) fun x21 l22 c23 =>
 CALLV Pg W v14 [(.agg #[(.slice x15 l16 c17), (.slice x18 l19 c20), (.slice x21 l22 c23)])]
 (fun v24 => INV Pg W v24 "furrowworks/book.text" []
 (fun v26 => TUP v26 fun q28 => HD q28 fun v29 r30 => TYS v29 fun t31 =>
 HD r30 fun v32 r33 => TYB v32 fun b34 =>
 NL r33 <|
 BR (!b34)
 (R (.returned (.tuple #[(.string ⟨#[]⟩), (.int .i64 1)])))
 (R (.returned (.tuple #[(.string t31), (.int .i64 0)]))))
 (fun e27 => R (.panicked e27)))
 (fun e25 => R (.panicked e25))
theorem does_book_file_api_Panels_write (W : World) (v1 : Value) (v2 : Value) (x3 : Option Addr) (l4 : Nat) (c5 : Nat) (x6 : Option Addr) (l7 : Nat) (c8 : Nat) (x9 : Option Addr) (l10 : Nat) (c11 : Nat) (R : Ending → Hp → Prop) (s : Hp) (h : T_book_file_api_Panels_write W v1 v2 x3 l4 c5 x6 l7 c8 x9 l10 c11 R s) : Does Pg W F_book_file_api_Panels_write #[(.agg #[v1, v2]), (.agg #[(.slice x3 l4 c5), (.slice x6 l7 c8), (.slice x9 l10 c11)])] s R :=
  does_of_vfun Pg W an_60 Tryz.func60 rfl (by kernel_rfl) (Eq.mpr (by kernel_rfl) h)
def an_62 : Nat → Ann := fun b => match b with
 | _ => {}
abbrev rv_62 : List ResultVar := [.cell 4 29, .cell 5 39]
abbrev rs_62 : List Nat := [20, 4, 5]
def T_book_file_api_Panels_read (W : World) (v1 : Value) (v2 : Value) (t3 : ByteArray) (R : Ending → Hp → Prop) : Hp → Prop :=
 NEW 111 [v1, v2] fun B4 =>
 NEWZ Pg 29 fun B5 =>
 NEWZ Pg 39 fun B6 =>
 NEWZ Pg 29 fun B7 =>
 RDV (Addr.add ⟨B4, 0, none⟩ 0) fun v8 =>
 RDL (Addr.add ⟨B7, 0, none⟩ 0) fun x9 l10 c11 =>
 RDL (Addr.add ⟨B7, 0, none⟩ 1) fun x12 l13 c14 =>
 RDL (Addr.add ⟨B7, 0, none⟩ 2) fun x15 l16 c17 =>
 CALLV Pg W v8 [(.agg #[(.slice x9 l10 c11), (.slice x12 l13 c14), (.slice x15 l16 c17)])]
 (fun v18 => CALL Pg W F_book_fill [v18, (.string t3)]
 (fun v20 => TUP v20 fun q22 => NL q22 <|
 RDV (Addr.add ⟨B4, 0, none⟩ 1) fun v23 =>
 CALLV Pg W v23 [v18]
 (fun v24 => AGG v24 fun q26 => HD q26 fun v27 r28 => TYL v27 fun x29 l30 c31 =>
 HD r28 fun v32 r33 => TYL v32 fun x34 l35 c36 =>
 HD r33 fun v37 r38 => TYL v37 fun x39 l40 c41 =>
 NL r38 <|
 WR (Addr.add ⟨B5, 0, none⟩ 0) (.slice x29 l30 c31) <|
 WR (Addr.add ⟨B5, 0, none⟩ 1) (.slice x34 l35 c36) <|
 WR (Addr.add ⟨B5, 0, none⟩ 2) (.slice x39 l40 c41) <|
 WR (Addr.add ⟨B6, 0, none⟩ 0) (.int .i64 0) <|
 DEF Pg W (.tuple #[(.func (.func 104) #[] #[(.pointer (some ⟨B6, 0, none⟩))]), (.tuple #[])]) none
 (RDL (Addr.add ⟨B5, 0, none⟩ 0) fun x42 l43 c44 =>
 RDL (Addr.add ⟨B5, 0, none⟩ 1) fun x45 l46 c47 =>
 RDL (Addr.add ⟨B5, 0, none⟩ 2) fun x48 l49 c50 =>
 RDI .i64 ⟨B6, 0, none⟩ fun n51 =>
 R (.returned (.tuple #[(.agg #[(.slice x42 l43 c44), (.slice x45 l46 c47), (.slice x48 l49 c50)]), (.int .i64 n51)]))))
 (fun e25 => DEF Pg W (.tuple #[(.func (.func 104) #[] #[(.pointer (some ⟨B6, 0, none⟩))]), (.tuple #[])]) (some e25) (RDL (Addr.add ⟨B5, 0, none⟩ 0) fun x52 l53 c54 =>
 RDL (Addr.add ⟨B5, 0, none⟩ 1) fun x55 l56 c57 =>
 RDL (Addr.add ⟨B5, 0, none⟩ 2) fun x58 l59 c60 =>
 RDI .i64 ⟨B6, 0, none⟩ fun n61 =>
 R (.returned (.tuple #[(.agg #[(.slice x52 l53 c54), (.slice x55 l56 c57), (.slice x58 l59 c60)]), (.int .i64 n61)])))))
 (fun e21 => DEF Pg W (.tuple #[(.func (.func 104) #[] #[(.pointer (some ⟨B6, 0, none⟩))]), (.tuple #[])]) (some e21) (RDL (Addr.add ⟨B5, 0, none⟩ 0) fun x62 l63 c64 =>
 RDL (Addr.add ⟨B5, 0, none⟩ 1) fun x65 l66 c67 =>
 RDL (Addr.add ⟨B5, 0, none⟩ 2) fun x68 l69 c70 =>
 RDI .i64 ⟨B6, 0, none⟩ fun n71 =>
 R (.returned (.tuple #[(.agg #[(.slice x62 l63 c64), (.slice x65 l66 c67), (.slice x68 l69 c70)]), (.int .i64 n71)])))))
 (fun e19 => DEF Pg W (.tuple #[(.func (.func 104) #[] #[(.pointer (some ⟨B6, 0, none⟩))]), (.tuple #[])]) (some e19) (RDL (Addr.add ⟨B5, 0, none⟩ 0) fun x72 l73 c74 =>
 RDL (Addr.add ⟨B5, 0, none⟩ 1) fun x75 l76 c77 =>
 RDL (Addr.add ⟨B5, 0, none⟩ 2) fun x78 l79 c80 =>
 RDI .i64 ⟨B6, 0, none⟩ fun n81 =>
 R (.returned (.tuple #[(.agg #[(.slice x72 l73 c74), (.slice x75 l76 c77), (.slice x78 l79 c80)]), (.int .i64 n81)]))))
theorem does_book_file_api_Panels_read (W : World) (v1 : Value) (v2 : Value) (t3 : ByteArray) (R : Ending → Hp → Prop) (s : Hp) (h : T_book_file_api_Panels_read W v1 v2 t3 R s) : Does Pg W F_book_file_api_Panels_read #[(.agg #[v1, v2]), (.string t3)] s R :=
  does_of_vfun Pg W an_62 Tryz.func62 rfl (by kernel_rfl) (Eq.mpr (by kernel_rfl) h)
def an_64 : Nat → Ann := fun b => match b with
 | _ => {}
abbrev rv_64 : List ResultVar := [.cell 0 119]
abbrev rs_64 : List Nat := [2, 0]
def T_book_hearingFile (W : World) (R : Ending → Hp → Prop) : Hp → Prop :=
 NEWZ Pg 119 fun B1 =>
 WR (Addr.add ⟨B1, 0, none⟩ 0) (.func (.func 105) #[] #[]) <|
 WR (Addr.add ⟨B1, 0, none⟩ 1) (.func (.func 106) #[] #[]) <|
 RDV (Addr.add ⟨B1, 0, none⟩ 0) fun v2 =>
 RDV (Addr.add ⟨B1, 0, none⟩ 1) fun v3 =>
 R (.returned (.agg #[v2, v3]))
theorem does_book_hearingFile (W : World) (R : Ending → Hp → Prop) (s : Hp) (h : T_book_hearingFile W R s) : Does Pg W F_book_hearingFile #[] s R :=
  does_of_vfun Pg W an_64 Tryz.func64 rfl (by kernel_rfl) (Eq.mpr (by kernel_rfl) h)
def an_65 : Nat → Ann := fun b => match b with
 | _ => {}
abbrev rv_65 : List ResultVar := [.tmp 4, .tmp 5]
abbrev rs_65 : List Nat := [19, 4, 5]
def T_book_file_api_Hearing_write (W : World) (v1 : Value) (v2 : Value) (n3 : Int) (n4 : Int) (n5 : Int) (x6 : Option Addr) (l7 : Nat) (c8 : Nat) (x9 : Option Addr) (l10 : Nat) (c11 : Nat) (R : Ending → Hp → Prop) : Hp → Prop :=
 NEW 119 [v1, v2] fun B12 =>
 NEW 34 [(.int .i64 n3), (.int .i64 n4), (.int .i64 n5), (.slice x6 l7 c8), (.slice x9 l10 c11)] fun B13 =>
 RDV (Addr.add ⟨B12, 0, none⟩ 0) fun v14 =>
 RDI .i64 (Addr.add ⟨B13, 0, none⟩ 0) fun n15 =>
 RDI .i64 (Addr.add ⟨B13, 0, none⟩ 1) fun n16 =>
 RDI .i64 (Addr.add ⟨B13, 0, none⟩ 2) fun n17 =>
 RDL (Addr.add ⟨B13, 0, none⟩ 3) fun x18 l19 c20 =>
 RDL (Addr.add ⟨B13, 0, none⟩ 4) fun x21 l22 c23 =>
 CALLV Pg W v14 [(.agg #[(.int .i64 n15), (.int .i64 n16), (.int .i64 n17), (.slice x18 l19 c20), (.slice x21 l22 c23)])]
 (fun v24 => INV Pg W v24 "furrowworks/book.text" []
 (fun v26 => TUP v26 fun q28 => HD q28 fun v29 r30 => TYS v29 fun t31 =>
 HD r30 fun v32 r33 => TYB v32 fun b34 =>
 NL r33 <|
 BR (!b34)
 (R (.returned (.tuple #[(.string ⟨#[]⟩), (.int .i64 1)])))
 (R (.returned (.tuple #[(.string t31), (.int .i64 0)]))))
 (fun e27 => R (.panicked e27)))
 (fun e25 => R (.panicked e25))
theorem does_book_file_api_Hearing_write (W : World) (v1 : Value) (v2 : Value) (n3 : Int) (n4 : Int) (n5 : Int) (x6 : Option Addr) (l7 : Nat) (c8 : Nat) (x9 : Option Addr) (l10 : Nat) (c11 : Nat) (R : Ending → Hp → Prop) (s : Hp) (h : T_book_file_api_Hearing_write W v1 v2 n3 n4 n5 x6 l7 c8 x9 l10 c11 R s) : Does Pg W F_book_file_api_Hearing_write #[(.agg #[v1, v2]), (.agg #[(.int .i64 n3), (.int .i64 n4), (.int .i64 n5), (.slice x6 l7 c8), (.slice x9 l10 c11)])] s R :=
  does_of_vfun Pg W an_65 Tryz.func65 rfl (by kernel_rfl) (Eq.mpr (by kernel_rfl) h)
def an_68 : Nat → Ann := fun b => match b with
 | _ => {}
abbrev rv_68 : List ResultVar := [.cell 4 34, .cell 5 39]
abbrev rs_68 : List Nat := [20, 4, 5]
def T_book_file_api_Hearing_read (W : World) (v1 : Value) (v2 : Value) (t3 : ByteArray) (R : Ending → Hp → Prop) : Hp → Prop :=
 NEW 119 [v1, v2] fun B4 =>
 NEWZ Pg 34 fun B5 =>
 NEWZ Pg 39 fun B6 =>
 NEWZ Pg 34 fun B7 =>
 RDV (Addr.add ⟨B4, 0, none⟩ 0) fun v8 =>
 RDI .i64 (Addr.add ⟨B7, 0, none⟩ 0) fun n9 =>
 RDI .i64 (Addr.add ⟨B7, 0, none⟩ 1) fun n10 =>
 RDI .i64 (Addr.add ⟨B7, 0, none⟩ 2) fun n11 =>
 RDL (Addr.add ⟨B7, 0, none⟩ 3) fun x12 l13 c14 =>
 RDL (Addr.add ⟨B7, 0, none⟩ 4) fun x15 l16 c17 =>
 CALLV Pg W v8 [(.agg #[(.int .i64 n9), (.int .i64 n10), (.int .i64 n11), (.slice x12 l13 c14), (.slice x15 l16 c17)])]
 (fun v18 => CALL Pg W F_book_fill [v18, (.string t3)]
 (fun v20 => TUP v20 fun q22 => NL q22 <|
 RDV (Addr.add ⟨B4, 0, none⟩ 1) fun v23 =>
 CALLV Pg W v23 [v18]
 (fun v24 => AGG v24 fun q26 => HD q26 fun v27 r28 => TYI .i64 v27 fun n29 =>
 HD r28 fun v30 r31 => TYI .i64 v30 fun n32 =>
 HD r31 fun v33 r34 => TYI .i64 v33 fun n35 =>
 HD r34 fun v36 r37 => TYL v36 fun x38 l39 c40 =>
 HD r37 fun v41 r42 => TYL v41 fun x43 l44 c45 =>
 NL r42 <|
 WR (Addr.add ⟨B5, 0, none⟩ 0) (.int .i64 n29) <|
 WR (Addr.add ⟨B5, 0, none⟩ 1) (.int .i64 n32) <|
 WR (Addr.add ⟨B5, 0, none⟩ 2) (.int .i64 n35) <|
 WR (Addr.add ⟨B5, 0, none⟩ 3) (.slice x38 l39 c40) <|
 WR (Addr.add ⟨B5, 0, none⟩ 4) (.slice x43 l44 c45) <|
 WR (Addr.add ⟨B6, 0, none⟩ 0) (.int .i64 0) <|
 DEF Pg W (.tuple #[(.func (.func 107) #[] #[(.pointer (some ⟨B6, 0, none⟩))]), (.tuple #[])]) none
 (RDI .i64 (Addr.add ⟨B5, 0, none⟩ 0) fun n46 =>
 RDI .i64 (Addr.add ⟨B5, 0, none⟩ 1) fun n47 =>
 RDI .i64 (Addr.add ⟨B5, 0, none⟩ 2) fun n48 =>
 RDL (Addr.add ⟨B5, 0, none⟩ 3) fun x49 l50 c51 =>
 RDL (Addr.add ⟨B5, 0, none⟩ 4) fun x52 l53 c54 =>
 RDI .i64 ⟨B6, 0, none⟩ fun n55 =>
 R (.returned (.tuple #[(.agg #[(.int .i64 n46), (.int .i64 n47), (.int .i64 n48), (.slice x49 l50 c51), (.slice x52 l53 c54)]), (.int .i64 n55)]))))
 (fun e25 => DEF Pg W (.tuple #[(.func (.func 107) #[] #[(.pointer (some ⟨B6, 0, none⟩))]), (.tuple #[])]) (some e25) (RDI .i64 (Addr.add ⟨B5, 0, none⟩ 0) fun n56 =>
 RDI .i64 (Addr.add ⟨B5, 0, none⟩ 1) fun n57 =>
 RDI .i64 (Addr.add ⟨B5, 0, none⟩ 2) fun n58 =>
 RDL (Addr.add ⟨B5, 0, none⟩ 3) fun x59 l60 c61 =>
 RDL (Addr.add ⟨B5, 0, none⟩ 4) fun x62 l63 c64 =>
 RDI .i64 ⟨B6, 0, none⟩ fun n65 =>
 R (.returned (.tuple #[(.agg #[(.int .i64 n56), (.int .i64 n57), (.int .i64 n58), (.slice x59 l60 c61), (.slice x62 l63 c64)]), (.int .i64 n65)])))))
 (fun e21 => DEF Pg W (.tuple #[(.func (.func 107) #[] #[(.pointer (some ⟨B6, 0, none⟩))]), (.tuple #[])]) (some e21) (RDI .i64 (Addr.add ⟨B5, 0, none⟩ 0) fun n66 =>
 RDI .i64 (Addr.add ⟨B5, 0, none⟩ 1) fun n67 =>
 RDI .i64 (Addr.add ⟨B5, 0, none⟩ 2) fun n68 =>
 RDL (Addr.add ⟨B5, 0, none⟩ 3) fun x69 l70 c71 =>
 RDL (Addr.add ⟨B5, 0, none⟩ 4) fun x72 l73 c74 =>
 RDI .i64 ⟨B6, 0, none⟩ fun n75 =>
 R (.returned (.tuple #[(.agg #[(.int .i64 n66), (.int .i64 n67), (.int .i64 n68), (.slice x69 l70 c71), (.slice x72 l73 c74)]), (.int .i64 n75)])))))
 (fun e19 => DEF Pg W (.tuple #[(.func (.func 107) #[] #[(.pointer (some ⟨B6, 0, none⟩))]), (.tuple #[])]) (some e19) (RDI .i64 (Addr.add ⟨B5, 0, none⟩ 0) fun n76 =>
 RDI .i64 (Addr.add ⟨B5, 0, none⟩ 1) fun n77 =>
 RDI .i64 (Addr.add ⟨B5, 0, none⟩ 2) fun n78 =>
 RDL (Addr.add ⟨B5, 0, none⟩ 3) fun x79 l80 c81 =>
 RDL (Addr.add ⟨B5, 0, none⟩ 4) fun x82 l83 c84 =>
 RDI .i64 ⟨B6, 0, none⟩ fun n85 =>
 R (.returned (.tuple #[(.agg #[(.int .i64 n76), (.int .i64 n77), (.int .i64 n78), (.slice x79 l80 c81), (.slice x82 l83 c84)]), (.int .i64 n85)]))))
theorem does_book_file_api_Hearing_read (W : World) (v1 : Value) (v2 : Value) (t3 : ByteArray) (R : Ending → Hp → Prop) (s : Hp) (h : T_book_file_api_Hearing_read W v1 v2 t3 R s) : Does Pg W F_book_file_api_Hearing_read #[(.agg #[v1, v2]), (.string t3)] s R :=
  does_of_vfun Pg W an_68 Tryz.func68 rfl (by kernel_rfl) (Eq.mpr (by kernel_rfl) h)
def an_70 : Nat → Ann := fun b => match b with
 | _ => {}
abbrev rv_70 : List ResultVar := [.tmp 2]
abbrev rs_70 : List Nat := [49, 2]
def J_book_isFurrow_0 (W : World) (R : Ending → Hp → Prop) (b35 : Bool) (B10 : Nat) : Hp → Prop :=
 BR b35
 (RDL (Addr.add ⟨B10, 0, none⟩ 2) fun x36 l37 c38 =>
 CALL Pg W F_slices_ContainsFunc_api_Span_api_Span [(.slice x36 l37 c38), (.func (.func 113) #[] #[])]
 (fun v39 => TYB v39 fun b41 =>
 R (.returned (.bool (!b41))))
 (fun e40 => R (.panicked e40)))
 (R (.returned (.bool false)))
def J_book_isFurrow_1 (W : World) (R : Ending → Hp → Prop) (b28 : Bool) (B10 : Nat) : Hp → Prop :=
 BR b28
 (RDL (Addr.add ⟨B10, 0, none⟩ 1) fun x29 l30 c31 =>
 CALL Pg W F_slices_ContainsFunc_api_Span_api_Span [(.slice x29 l30 c31), (.func (.func 112) #[] #[])]
 (fun v32 => TYB v32 fun b34 =>
 J_book_isFurrow_0 W R (!b34) B10)
 (fun e33 => R (.panicked e33)))
 (J_book_isFurrow_0 W R false B10)
def J_book_isFurrow_2 (W : World) (R : Ending → Hp → Prop) (b21 : Bool) (B10 : Nat) : Hp → Prop :=
 BR b21
 (RDL (Addr.add ⟨B10, 0, none⟩ 0) fun x22 l23 c24 =>
 CALL Pg W F_slices_ContainsFunc_api_Span_api_Span [(.slice x22 l23 c24), (.func (.func 110) #[] #[])]
 (fun v25 => TYB v25 fun b27 =>
 J_book_isFurrow_1 W R (!b27) B10)
 (fun e26 => R (.panicked e26)))
 (J_book_isFurrow_1 W R false B10)
def J_book_isFurrow_3 (W : World) (R : Ending → Hp → Prop) (b17 : Bool) (B10 : Nat) (l12 : Nat) : Hp → Prop :=
 BR b17
 (RDL (Addr.add ⟨B10, 0, none⟩ 2) fun x18 l19 c20 =>
 J_book_isFurrow_2 W R ((↑l19 : Int) == (↑l12 : Int)) B10)
 (J_book_isFurrow_2 W R false B10)
def T_book_isFurrow (W : World) (x1 : Option Addr) (l2 : Nat) (c3 : Nat) (x4 : Option Addr) (l5 : Nat) (c6 : Nat) (x7 : Option Addr) (l8 : Nat) (c9 : Nat) (R : Ending → Hp → Prop) : Hp → Prop :=
 NEW 37 [(.slice x1 l2 c3), (.slice x4 l5 c6), (.slice x7 l8 c9)] fun B10 =>
 RDL (Addr.add ⟨B10, 0, none⟩ 0) fun x11 l12 c13 =>
 BR (decide ((↑l12 : Int) ≤ 8))
 (RDL (Addr.add ⟨B10, 0, none⟩ 1) fun x14 l15 c16 =>
 J_book_isFurrow_3 W R ((↑l15 : Int) == (↑l12 : Int)) B10 l12)
 (J_book_isFurrow_3 W R false B10 l12)
theorem does_book_isFurrow (W : World) (x1 : Option Addr) (l2 : Nat) (c3 : Nat) (x4 : Option Addr) (l5 : Nat) (c6 : Nat) (x7 : Option Addr) (l8 : Nat) (c9 : Nat) (R : Ending → Hp → Prop) (s : Hp) (h : T_book_isFurrow W x1 l2 c3 x4 l5 c6 x7 l8 c9 R s) : Does Pg W F_book_isFurrow #[(.agg #[(.slice x1 l2 c3), (.slice x4 l5 c6), (.slice x7 l8 c9)])] s R :=
  does_of_vfun Pg W an_70 Tryz.func70 rfl (by kernel_rfl) (Eq.mpr (by kernel_rfl) h)
def an_72 : Nat → Ann := fun b => match b with
 | 0 => { ms := [3, 8], ks := [.i .i64, .i .i64], us := [0, 2, 6, 7, 32], rt := false, ex := [] }
 | _ => {}
abbrev rv_72 : List ResultVar := [.tmp 2]
abbrev rs_72 : List Nat := [32, 2]
def L_book_checked_0 (W : World) (R : Ending → Hp → Prop) (zp0 : Option Addr) (zl1 : Nat) (zl2 : Nat) (zn3 : Int) (n4 : Int) (n5 : Int) : Hp → Prop :=
 LOOPN [.i .i64, .i .i64] (fun ys next s => ∀ j : Tm, vc Pg W 32 rs_72 an_72 false (sub (bodyOf Tryz.f72) [1, 1, 0, 1, 0, 0]) 0 (KLoop [3, 8] [0, 2, 6, 7, 32] [(.slice zp0 zl1 zl2), (.slice none 0 0), (.slice zp0 zl1 zl2), (.int .i64 zn3), (.tuple #[])] next (KBlk 0 (KS Pg W 32 rs_72 an_72 false (sub (bodyOf Tryz.f72) [1, 1, 1]) 0 (fin Pg W 32 rv_72 R)))) (known [3, 8] ys (known [0, 2, 6, 7, 32] [(.slice zp0 zl1 zl2), (.slice none 0 0), (.slice zp0 zl1 zl2), (.int .i64 zn3), (.tuple #[])] j)) s) [(.int .i64 n4), (.int .i64 n5)]
def B_book_checked_0 (W : World) (R : Ending → Hp → Prop) (zp0 : Option Addr) (zl1 : Nat) (zl2 : Nat) (zn3 : Int) (n4 : Int) (n5 : Int) (nx0 : List Value → Hp → Prop) : Hp → Prop :=
 BR (decide (n5 < zn3))
 (IXS zp0 zl1 n5 1 fun a6 =>
 RDI .u8 a6 fun n7 =>
 NX [(.slice zp0 zl1 zl2), (.slice none 0 0), (.slice zp0 zl1 zl2), (.int .i64 zn3), (.tuple #[])] [(.slice zp0 zl1 zl2), (.slice none 0 0), (.slice zp0 zl1 zl2), (.int .i64 zn3), (.tuple #[])] (nx0 [(.int .i64 (Int.tmod (IntKind.wrap .i64 (n4 + (IntKind.wrap .i64 ((IntKind.wrap .i64 (n5 + 1)) * (IntKind.wrap .i64 n7))))) 65521)), (.int .i64 (IntKind.wrap .i64 (n5 + 1)))]))
 (CALL Pg W F_slices_Clone_byte_byte [(.slice zp0 zl1 zl2)]
 (fun v8 => TYL v8 fun x10 l11 c12 =>
 NEW 5 [(.int .u8 (IntKind.wrap .u8 (IntKind.wrap .i64 (Int.tdiv n4 256)))), (.int .u8 (IntKind.wrap .u8 (Int.tmod n4 256)))] fun B13 =>
 APP Pg 5 1 x10 l11 c12 (some ⟨B13, 0, none⟩) 2 fun x14 l15 c16 =>
 R (.returned (.slice x14 l15 c16)))
 (fun e9 => R (.panicked e9)))
theorem B_book_checked_0_eq (W : World) (R : Ending → Hp → Prop) (zp0 : Option Addr) (zl1 : Nat) (zl2 : Nat) (zn3 : Int) (n4 : Int) (n5 : Int) (nx0 : List Value → Hp → Prop) (j : Tm) : vc Pg W 32 rs_72 an_72 false (sub (bodyOf Tryz.f72) [1, 1, 0, 1, 0, 0]) 0 (KLoop [3, 8] [0, 2, 6, 7, 32] [(.slice zp0 zl1 zl2), (.slice none 0 0), (.slice zp0 zl1 zl2), (.int .i64 zn3), (.tuple #[])] nx0 (KBlk 0 (KS Pg W 32 rs_72 an_72 false (sub (bodyOf Tryz.f72) [1, 1, 1]) 0 (fin Pg W 32 rv_72 R)))) (known [3, 8] [(.int .i64 n4), (.int .i64 n5)] (known [0, 2, 6, 7, 32] [(.slice zp0 zl1 zl2), (.slice none 0 0), (.slice zp0 zl1 zl2), (.int .i64 zn3), (.tuple #[])] j)) = B_book_checked_0 W R zp0 zl1 zl2 zn3 n4 n5 nx0 := by kernel_rfl
def N_book_checked_0 (I : Int → Int → Hp → Prop) (μ : Int → Int → Hp → Nat) (n40 : Int) (n50 : Int) (s : Hp) (vs : List Value) : Hp → Prop := fun s' => ∃ n4 n5, vs = [(.int .i64 n4), (.int .i64 n5)] ∧ I n4 n5 s' ∧ μ n4 n5 s' < μ n40 n50 s
theorem L_book_checked_0_rule (W : World) (R : Ending → Hp → Prop) (zp0 : Option Addr) (zl1 : Nat) (zl2 : Nat) (zn3 : Int) (I : Int → Int → Hp → Prop) (μ : Int → Int → Hp → Nat) (n40 : Int) (n50 : Int) (s : Hp) (h0 : I n40 n50 s)
    (hr : ∀ (n4 : Int) (n5 : Int) (s : Hp), I n4 n5 s → B_book_checked_0 W R zp0 zl1 zl2 zn3 n4 n5 (fun vs => N_book_checked_0 I μ n4 n5 s vs) s) : L_book_checked_0 W R zp0 zl1 zl2 zn3 n40 n50 s := by
  refine ⟨fun vs s => ∃ n4 n5, vs = [(.int .i64 n4), (.int .i64 n5)] ∧ I n4 n5 s, fun vs s => (match vs with | [.int _ n4, .int _ n5] => μ n4 n5 s | _ => 0), ⟨⟨⟨_, rfl⟩, ⟨⟨_, rfl⟩, trivial⟩⟩, ⟨_, _, rfl, h0⟩⟩, ?_⟩
  intro n4 n5 s hI j
  obtain ⟨n4', n5', hy, hI⟩ := hI
  have hI' : I n4 n5 s := by cases hy; exact hI
  have hh := hr n4 n5 s hI'
  rw [← B_book_checked_0_eq W R zp0 zl1 zl2 zn3 n4 n5 _ j] at hh
  refine vc_mono ?_ _ _ hh
  exact KLoop_mono (fun vs s' h => by obtain ⟨n41, n51, rfl, h1, h2⟩ := h; exact ⟨⟨⟨_, rfl⟩, ⟨⟨_, rfl⟩, trivial⟩⟩, ⟨_, _, rfl, h1⟩, h2⟩)
def T_book_checked (W : World) (x1 : Option Addr) (l2 : Nat) (c3 : Nat) (R : Ending → Hp → Prop) : Hp → Prop :=
 L_book_checked_0 W R x1 l2 c3 (↑l2 : Int) 0 0
theorem does_book_checked (W : World) (x1 : Option Addr) (l2 : Nat) (c3 : Nat) (R : Ending → Hp → Prop) (s : Hp) (h : T_book_checked W x1 l2 c3 R s) : Does Pg W F_book_checked #[(.slice x1 l2 c3)] s R :=
  does_of_vfun Pg W an_72 Tryz.func72 rfl (by kernel_rfl) (Eq.mpr (by kernel_rfl) h)
def an_74 : Nat → Ann := fun b => match b with
 | _ => {}
abbrev rv_74 : List ResultVar := []
abbrev rs_74 : List Nat := [20]
def T_book_caught (W : World) (v1 : Value) (p2 : Option Addr) (R : Ending → Hp → Prop) : Hp → Prop :=
 NILE v1 fun b3 =>
 BR b3
 (R (.returned (.tuple #[])))
 (IFC v1 fun w4 v5 =>
 BR (Nat.beq w4 172)
 (AGG v5 fun q6 => HD q6 fun v7 r8 => TYC .i64 v7 fun n9 =>
 NL r8 <|
 NEWZ Pg 172 fun B10 =>
 WR (Addr.add ⟨B10, 0, none⟩ 0) (.int .i64 n9) <|
 RDI .i64 (Addr.add ⟨B10, 0, none⟩ 0) fun n11 =>
 SO p2 fun a12 =>
 WR (Addr.add a12 0) (.int .i64 n11) <|
 R (.returned (.tuple #[])))
 (NEWZ Pg 172 fun B13 =>
 WR (Addr.add ⟨B13, 0, none⟩ 0) (.int .i64 0) <|
 PAN v1 fun e14 =>
 R (.panicked e14)))
theorem does_book_caught (W : World) (v1 : Value) (p2 : Option Addr) (R : Ending → Hp → Prop) (s : Hp) (h : T_book_caught W v1 p2 R s) : Does Pg W F_book_caught #[v1, (.pointer p2)] s R :=
  does_of_vfun Pg W an_74 Tryz.func74 rfl (by kernel_rfl) (Eq.mpr (by kernel_rfl) h)
def an_75 : Nat → Ann := fun b => match b with
 | _ => {}
abbrev rv_75 : List ResultVar := []
abbrev rs_75 : List Nat := [9]
def T_book_need (W : World) (b1 : Bool) (n2 : Int) (R : Ending → Hp → Prop) : Hp → Prop :=
 BR (!b1)
 (R (.panicked [{ v := (.iface 172 (.agg #[(.int .i64 n2)])), recovered := false }]))
 (R (.returned (.tuple #[])))
theorem does_book_need (W : World) (b1 : Bool) (n2 : Int) (R : Ending → Hp → Prop) (s : Hp) (h : T_book_need W b1 n2 R s) : Does Pg W F_book_need #[(.bool b1), (.int .i64 n2)] s R :=
  does_of_vfun Pg W an_75 Tryz.func75 rfl (by kernel_rfl) (Eq.mpr (by kernel_rfl) h)
def an_77 : Nat → Ann := fun b => match b with
 | _ => {}
abbrev rv_77 : List ResultVar := [.tmp 1]
abbrev rs_77 : List Nat := [14, 1]
def T_book_ReadFurrow_c2 (W : World) (a1 : Addr) (R : Ending → Hp → Prop) : Hp → Prop :=
 RDL a1 fun x2 l3 c4 =>
 CALL Pg W F_book_need [(.bool (decide ((↑l3 : Int) > 0))), (.int .i64 8)]
 (fun v5 => TUP v5 fun q7 => NL q7 <|
 RDL a1 fun x8 l9 c10 =>
 IXS x8 l9 0 1 fun a11 =>
 RDI .u8 a11 fun n12 =>
 RDL a1 fun x13 l14 c15 =>
 SLS x13 c15 1 ↑l14 1 fun x16 l17 c18 =>
 WR (Addr.add a1 0) (.slice x16 l17 c18) <|
 R (.returned (.int .i64 (IntKind.wrap .i64 n12))))
 (fun e6 => R (.panicked e6))
theorem does_book_ReadFurrow_c2 (W : World) (a1 : Addr) (R : Ending → Hp → Prop) (s : Hp) (h : T_book_ReadFurrow_c2 W a1 R s) : Does Pg W F_book_ReadFurrow_c2 #[(.pointer (some a1))] s R :=
  does_of_vfun Pg W an_77 Tryz.func77 rfl (by kernel_rfl) (Eq.mpr (by kernel_rfl) h)
def an_78 : Nat → Ann := fun b => match b with
 | _ => {}
abbrev rv_78 : List ResultVar := [.cell 1 74]
abbrev rs_78 : List Nat := [7, 1]
def T_book_ReadFurrow_c3 (W : World) (a1 : Addr) (R : Ending → Hp → Prop) : Hp → Prop :=
 NEWZ Pg 74 fun B2 =>
 RDV a1 fun v3 =>
 RDV a1 fun v4 =>
 CALLV Pg W v3 []
 (fun v5 => TYI .i64 v5 fun n7 =>
 ANDS (RDV a1 fun v8 =>
 fun _ => (v8 : Value) = v4) <|
 CALLV Pg W v4 []
 (fun v9 => TYI .i64 v9 fun n11 =>
 WR (Addr.add ⟨B2, 0, none⟩ 0) (.int .i64 n7) <|
 WR (Addr.add ⟨B2, 0, none⟩ 1) (.int .i64 n11) <|
 RDI .i64 (Addr.add ⟨B2, 0, none⟩ 0) fun n12 =>
 RDI .i64 (Addr.add ⟨B2, 0, none⟩ 1) fun n13 =>
 R (.returned (.agg #[(.int .i64 n12), (.int .i64 n13)])))
 (fun e10 => R (.panicked e10)))
 (fun e6 => R (.panicked e6))
theorem does_book_ReadFurrow_c3 (W : World) (a1 : Addr) (R : Ending → Hp → Prop) (s : Hp) (h : T_book_ReadFurrow_c3 W a1 R s) : Does Pg W F_book_ReadFurrow_c3 #[(.pointer (some a1))] s R :=
  does_of_vfun Pg W an_78 Tryz.func78 rfl (by kernel_rfl) (Eq.mpr (by kernel_rfl) h)
def an_94 : Nat → Ann := fun b => match b with
 | _ => {}
abbrev rv_94 : List ResultVar := [.tmp 2]
abbrev rs_94 : List Nat := [7, 2]
def T_book_pegsFile_c1 (W : World) (n1 : Int) (x2 : Option Addr) (l3 : Nat) (c4 : Nat) (x5 : Option Addr) (l6 : Nat) (c7 : Nat) (R : Ending → Hp → Prop) : Hp → Prop :=
 NEW 25 [(.int .i64 n1), (.slice x2 l3 c4), (.slice x5 l6 c7)] fun B8 =>
 RDI .i64 (Addr.add ⟨B8, 0, none⟩ 0) fun n9 =>
 RDL (Addr.add ⟨B8, 0, none⟩ 1) fun x10 l11 c12 =>
 RDL (Addr.add ⟨B8, 0, none⟩ 2) fun x13 l14 c15 =>
 NEW 147 [(.int .i64 n9), (.slice x10 l11 c12), (.slice x13 l14 c15)] fun B16 =>
 R (.returned (.iface 145 (.pointer (some ⟨B16, 0, none⟩))))
theorem does_book_pegsFile_c1 (W : World) (n1 : Int) (x2 : Option Addr) (l3 : Nat) (c4 : Nat) (x5 : Option Addr) (l6 : Nat) (c7 : Nat) (R : Ending → Hp → Prop) (s : Hp) (h : T_book_pegsFile_c1 W n1 x2 l3 c4 x5 l6 c7 R s) : Does Pg W F_book_pegsFile_c1 #[(.agg #[(.int .i64 n1), (.slice x2 l3 c4), (.slice x5 l6 c7)])] s R :=
  does_of_vfun Pg W an_94 Tryz.func94 rfl (by kernel_rfl) (Eq.mpr (by kernel_rfl) h)
def an_95 : Nat → Ann := fun b => match b with
 | _ => {}
abbrev rv_95 : List ResultVar := [.cell 2 25]
abbrev rs_95 : List Nat := [8, 2]
def T_book_pegsFile_c2 (W : World) (v1 : Value) (R : Ending → Hp → Prop) : Hp → Prop :=
 NEWZ Pg 25 fun B2 =>
 IFC v1 fun w3 v4 =>
 BR (Nat.beq w3 145)
 (TYP v4 fun p5 =>
 SO p5 fun a6 =>
 RDI .i64 (Addr.add (Addr.add a6 0) 0) fun n7 =>
 RDL (Addr.add (Addr.add a6 0) 1) fun x8 l9 c10 =>
 RDL (Addr.add (Addr.add a6 0) 2) fun x11 l12 c13 =>
 WR (Addr.add ⟨B2, 0, none⟩ 0) (.int .i64 n7) <|
 WR (Addr.add ⟨B2, 0, none⟩ 1) (.slice x8 l9 c10) <|
 WR (Addr.add ⟨B2, 0, none⟩ 2) (.slice x11 l12 c13) <|
 RDI .i64 (Addr.add ⟨B2, 0, none⟩ 0) fun n14 =>
 RDL (Addr.add ⟨B2, 0, none⟩ 1) fun x15 l16 c17 =>
 RDL (Addr.add ⟨B2, 0, none⟩ 2) fun x18 l19 c20 =>
 R (.returned (.agg #[(.int .i64 n14), (.slice x15 l16 c17), (.slice x18 l19 c20)])))
 (FF)
theorem does_book_pegsFile_c2 (W : World) (v1 : Value) (R : Ending → Hp → Prop) (s : Hp) (h : T_book_pegsFile_c2 W v1 R s) : Does Pg W F_book_pegsFile_c2 #[v1] s R :=
  does_of_vfun Pg W an_95 Tryz.func95 rfl (by kernel_rfl) (Eq.mpr (by kernel_rfl) h)
def an_98 : Nat → Ann := fun b => match b with
 | 0 => { ms := [], ks := [.p], us := [], rt := false, ex := [], pn := true }
 | _ => {}
abbrev rv_98 : List ResultVar := []
abbrev rs_98 : List Nat := [48]
def T_book_fill (W : World) (v1 : Value) (t2 : ByteArray) (R : Ending → Hp → Prop) : Hp → Prop :=
 ONE v1 <|
 NEW 144 [v1] fun B3 =>
 CALL Pg W F_book_need [(.bool (decide ((↑(t2).size : Int) ≤ 2000))), (.int .i64 3)]
 (fun v4 => TUP v4 fun q6 => NL q6 <|
 RDV ⟨B3, 0, none⟩ fun v7 =>
 INV Pg W v7 "furrowworks/book.begins" []
 (fun v8 => TYM v8 fun m10 =>
 NEWZ Pg 177 fun B11 =>
 WR (Addr.add ⟨B11, 0, none⟩ 0) (.map m10) <|
 CALL Pg W F_book_rows [(.string t2)]
 (fun v12 => RNGP Pg W v12 1
 (fun y14 fin15 pe16 => HD y14 fun v17 r18 => TYP v17 fun p19 =>
 NL r18 <|
 CALL Pg W F_book_row_part [(.pointer p19)]
 (fun v20 => TYS v20 fun t22 =>
 RDM ⟨B11, 0, none⟩ fun m23 =>
 LKP Pg 177 (.map m23) (.string t22) true fun v24 =>
 TUP v24 fun q25 => HD q25 fun v26 r27 => HD r27 fun v28 r29 => TYB v28 fun b30 =>
 NL r29 <|
 BR b30
 (CALLV Pg W v26 [(.pointer p19)]
 (fun v31 => TUP v31 fun q33 => NL q33 <|
 fin15 none)
 (fun e32 => pe16 e32))
 (RDV ⟨B3, 0, none⟩ fun v34 =>
 INV Pg W v34 "furrowworks/book.other" [(.string t22), (.pointer p19)]
 (fun v35 => TUP v35 fun q37 => NL q37 <|
 fin15 none)
 (fun e36 => pe16 e36)))
 (fun e21 => pe16 e21))
 (AFT
 (RDV ⟨B3, 0, none⟩ fun v38 =>
 INV Pg W v38 "furrowworks/book.text" []
 (fun v39 => TUP v39 fun q41 => HD q41 fun v42 r43 => TYS v42 fun t44 =>
 HD r43 fun v45 r46 => TYB v45 fun b47 =>
 NL r46 <|
 BR b47
 (CALL Pg W F_book_need [(.bool (seqB t44 t2)), (.int .i64 8)]
 (fun v48 => TUP v48 fun q50 => NL q50 <|
 R (.returned (.tuple #[])))
 (fun e49 => R (.panicked e49)))
 (CALL Pg W F_book_need [(.bool false), (.int .i64 8)]
 (fun v51 => TUP v51 fun q53 => NL q53 <|
 R (.returned (.tuple #[])))
 (fun e52 => R (.panicked e52))))
 (fun e40 => R (.panicked e40))) (FF) (EXL [] fun _ => FF))
 (fun e54 => R (.panicked e54)))
 (fun e13 => R (.panicked e13)))
 (fun e9 => R (.panicked e9)))
 (fun e5 => R (.panicked e5))
theorem does_book_fill (W : World) (v1 : Value) (t2 : ByteArray) (R : Ending → Hp → Prop) (s : Hp) (h : T_book_fill W v1 t2 R s) : Does Pg W F_book_fill #[v1, (.string t2)] s R :=
  does_of_vfun Pg W an_98 Tryz.func98 rfl (by kernel_rfl) (Eq.mpr (by kernel_rfl) h)
def an_102 : Nat → Ann := fun b => match b with
 | _ => {}
abbrev rv_102 : List ResultVar := [.tmp 2]
abbrev rs_102 : List Nat := [7, 2]
def T_book_panelsFile_c1 (W : World) (x1 : Option Addr) (l2 : Nat) (c3 : Nat) (x4 : Option Addr) (l5 : Nat) (c6 : Nat) (x7 : Option Addr) (l8 : Nat) (c9 : Nat) (R : Ending → Hp → Prop) : Hp → Prop :=
 NEW 29 [(.slice x1 l2 c3), (.slice x4 l5 c6), (.slice x7 l8 c9)] fun B10 =>
 RDL (Addr.add ⟨B10, 0, none⟩ 0) fun x11 l12 c13 =>
 RDL (Addr.add ⟨B10, 0, none⟩ 1) fun x14 l15 c16 =>
 RDL (Addr.add ⟨B10, 0, none⟩ 2) fun x17 l18 c19 =>
 NEW 159 [(.slice x11 l12 c13), (.slice x14 l15 c16), (.slice x17 l18 c19)] fun B20 =>
 R (.returned (.iface 157 (.pointer (some ⟨B20, 0, none⟩))))
theorem does_book_panelsFile_c1 (W : World) (x1 : Option Addr) (l2 : Nat) (c3 : Nat) (x4 : Option Addr) (l5 : Nat) (c6 : Nat) (x7 : Option Addr) (l8 : Nat) (c9 : Nat) (R : Ending → Hp → Prop) (s : Hp) (h : T_book_panelsFile_c1 W x1 l2 c3 x4 l5 c6 x7 l8 c9 R s) : Does Pg W F_book_panelsFile_c1 #[(.agg #[(.slice x1 l2 c3), (.slice x4 l5 c6), (.slice x7 l8 c9)])] s R :=
  does_of_vfun Pg W an_102 Tryz.func102 rfl (by kernel_rfl) (Eq.mpr (by kernel_rfl) h)
def an_103 : Nat → Ann := fun b => match b with
 | _ => {}
abbrev rv_103 : List ResultVar := [.cell 2 29]
abbrev rs_103 : List Nat := [8, 2]
def T_book_panelsFile_c2 (W : World) (v1 : Value) (R : Ending → Hp → Prop) : Hp → Prop :=
 NEWZ Pg 29 fun B2 =>
 IFC v1 fun w3 v4 =>
 BR (Nat.beq w3 157)
 (TYP v4 fun p5 =>
 SO p5 fun a6 =>
 RDL (Addr.add (Addr.add a6 0) 0) fun x7 l8 c9 =>
 RDL (Addr.add (Addr.add a6 0) 1) fun x10 l11 c12 =>
 RDL (Addr.add (Addr.add a6 0) 2) fun x13 l14 c15 =>
 WR (Addr.add ⟨B2, 0, none⟩ 0) (.slice x7 l8 c9) <|
 WR (Addr.add ⟨B2, 0, none⟩ 1) (.slice x10 l11 c12) <|
 WR (Addr.add ⟨B2, 0, none⟩ 2) (.slice x13 l14 c15) <|
 RDL (Addr.add ⟨B2, 0, none⟩ 0) fun x16 l17 c18 =>
 RDL (Addr.add ⟨B2, 0, none⟩ 1) fun x19 l20 c21 =>
 RDL (Addr.add ⟨B2, 0, none⟩ 2) fun x22 l23 c24 =>
 R (.returned (.agg #[(.slice x16 l17 c18), (.slice x19 l20 c21), (.slice x22 l23 c24)])))
 (FF)
theorem does_book_panelsFile_c2 (W : World) (v1 : Value) (R : Ending → Hp → Prop) (s : Hp) (h : T_book_panelsFile_c2 W v1 R s) : Does Pg W F_book_panelsFile_c2 #[v1] s R :=
  does_of_vfun Pg W an_103 Tryz.func103 rfl (by kernel_rfl) (Eq.mpr (by kernel_rfl) h)
def an_105 : Nat → Ann := fun b => match b with
 | _ => {}
abbrev rv_105 : List ResultVar := [.tmp 2]
abbrev rs_105 : List Nat := [7, 2]
def T_book_hearingFile_c1 (W : World) (n1 : Int) (n2 : Int) (n3 : Int) (x4 : Option Addr) (l5 : Nat) (c6 : Nat) (x7 : Option Addr) (l8 : Nat) (c9 : Nat) (R : Ending → Hp → Prop) : Hp → Prop :=
 NEW 34 [(.int .i64 n1), (.int .i64 n2), (.int .i64 n3), (.slice x4 l5 c6), (.slice x7 l8 c9)] fun B10 =>
 RDI .i64 (Addr.add ⟨B10, 0, none⟩ 0) fun n11 =>
 RDI .i64 (Addr.add ⟨B10, 0, none⟩ 1) fun n12 =>
 RDI .i64 (Addr.add ⟨B10, 0, none⟩ 2) fun n13 =>
 RDL (Addr.add ⟨B10, 0, none⟩ 3) fun x14 l15 c16 =>
 RDL (Addr.add ⟨B10, 0, none⟩ 4) fun x17 l18 c19 =>
 NEW 162 [(.int .i64 n11), (.int .i64 n12), (.int .i64 n13), (.slice x14 l15 c16), (.slice x17 l18 c19)] fun B20 =>
 R (.returned (.iface 160 (.pointer (some ⟨B20, 0, none⟩))))
theorem does_book_hearingFile_c1 (W : World) (n1 : Int) (n2 : Int) (n3 : Int) (x4 : Option Addr) (l5 : Nat) (c6 : Nat) (x7 : Option Addr) (l8 : Nat) (c9 : Nat) (R : Ending → Hp → Prop) (s : Hp) (h : T_book_hearingFile_c1 W n1 n2 n3 x4 l5 c6 x7 l8 c9 R s) : Does Pg W F_book_hearingFile_c1 #[(.agg #[(.int .i64 n1), (.int .i64 n2), (.int .i64 n3), (.slice x4 l5 c6), (.slice x7 l8 c9)])] s R :=
  does_of_vfun Pg W an_105 Tryz.func105 rfl (by kernel_rfl) (Eq.mpr (by kernel_rfl) h)
def an_106 : Nat → Ann := fun b => match b with
 | _ => {}
abbrev rv_106 : List ResultVar := [.cell 2 34]
abbrev rs_106 : List Nat := [8, 2]
def T_book_hearingFile_c2 (W : World) (v1 : Value) (R : Ending → Hp → Prop) : Hp → Prop :=
 NEWZ Pg 34 fun B2 =>
 IFC v1 fun w3 v4 =>
 BR (Nat.beq w3 160)
 (TYP v4 fun p5 =>
 SO p5 fun a6 =>
 RDI .i64 (Addr.add (Addr.add a6 0) 0) fun n7 =>
 RDI .i64 (Addr.add (Addr.add a6 0) 1) fun n8 =>
 RDI .i64 (Addr.add (Addr.add a6 0) 2) fun n9 =>
 RDL (Addr.add (Addr.add a6 0) 3) fun x10 l11 c12 =>
 RDL (Addr.add (Addr.add a6 0) 4) fun x13 l14 c15 =>
 WR (Addr.add ⟨B2, 0, none⟩ 0) (.int .i64 n7) <|
 WR (Addr.add ⟨B2, 0, none⟩ 1) (.int .i64 n8) <|
 WR (Addr.add ⟨B2, 0, none⟩ 2) (.int .i64 n9) <|
 WR (Addr.add ⟨B2, 0, none⟩ 3) (.slice x10 l11 c12) <|
 WR (Addr.add ⟨B2, 0, none⟩ 4) (.slice x13 l14 c15) <|
 RDI .i64 (Addr.add ⟨B2, 0, none⟩ 0) fun n16 =>
 RDI .i64 (Addr.add ⟨B2, 0, none⟩ 1) fun n17 =>
 RDI .i64 (Addr.add ⟨B2, 0, none⟩ 2) fun n18 =>
 RDL (Addr.add ⟨B2, 0, none⟩ 3) fun x19 l20 c21 =>
 RDL (Addr.add ⟨B2, 0, none⟩ 4) fun x22 l23 c24 =>
 R (.returned (.agg #[(.int .i64 n16), (.int .i64 n17), (.int .i64 n18), (.slice x19 l20 c21), (.slice x22 l23 c24)])))
 (FF)
theorem does_book_hearingFile_c2 (W : World) (v1 : Value) (R : Ending → Hp → Prop) (s : Hp) (h : T_book_hearingFile_c2 W v1 R s) : Does Pg W F_book_hearingFile_c2 #[v1] s R :=
  does_of_vfun Pg W an_106 Tryz.func106 rfl (by kernel_rfl) (Eq.mpr (by kernel_rfl) h)
def an_110 : Nat → Ann := fun b => match b with
 | _ => {}
abbrev rv_110 : List ResultVar := [.tmp 2]
abbrev rs_110 : List Nat := [14, 2]
def T_book_isFurrow_c1 (W : World) (n1 : Int) (n2 : Int) (R : Ending → Hp → Prop) : Hp → Prop :=
 NEW 74 [(.int .i64 n1), (.int .i64 n2)] fun B3 =>
 RDI .i64 (Addr.add ⟨B3, 0, none⟩ 0) fun n4 =>
 RDI .i64 (Addr.add ⟨B3, 0, none⟩ 1) fun n5 =>
 CALL Pg W F_book_isSpan [(.agg #[(.int .i64 n4), (.int .i64 n5)]), (.int .i64 (-12)), (.int .i64 12)]
 (fun v6 => TYB v6 fun b8 =>
 BR (!b8)
 (R (.returned (.bool true)))
 (RDI .i64 (Addr.add ⟨B3, 0, none⟩ 1) fun n9 =>
 RDI .i64 (Addr.add ⟨B3, 0, none⟩ 0) fun n10 =>
 R (.returned (.bool (decide ((IntKind.wrap .i64 (n9 - n10)) > 6))))))
 (fun e7 => R (.panicked e7))
theorem does_book_isFurrow_c1 (W : World) (n1 : Int) (n2 : Int) (R : Ending → Hp → Prop) (s : Hp) (h : T_book_isFurrow_c1 W n1 n2 R s) : Does Pg W F_book_isFurrow_c1 #[(.agg #[(.int .i64 n1), (.int .i64 n2)])] s R :=
  does_of_vfun Pg W an_110 Tryz.func110 rfl (by kernel_rfl) (Eq.mpr (by kernel_rfl) h)
def an_111 : Nat → Ann := fun b => match b with
 | _ => {}
abbrev rv_111 : List ResultVar := [.tmp 6]
abbrev rs_111 : List Nat := [24, 6]
def T_book_isSpan (W : World) (n1 : Int) (n2 : Int) (n3 : Int) (n4 : Int) (R : Ending → Hp → Prop) : Hp → Prop :=
 NEW 74 [(.int .i64 n1), (.int .i64 n2)] fun B5 =>
 RDI .i64 (Addr.add ⟨B5, 0, none⟩ 0) fun n6 =>
 BR (decide (n3 ≤ n6))
 (RDI .i64 (Addr.add ⟨B5, 0, none⟩ 0) fun n7 =>
 RDI .i64 (Addr.add ⟨B5, 0, none⟩ 1) fun n8 =>
 BR (decide (n7 ≤ n8))
 (RDI .i64 (Addr.add ⟨B5, 0, none⟩ 1) fun n9 =>
 R (.returned (.bool (decide (n9 ≤ n4)))))
 (R (.returned (.bool false))))
 (R (.returned (.bool false)))
theorem does_book_isSpan (W : World) (n1 : Int) (n2 : Int) (n3 : Int) (n4 : Int) (R : Ending → Hp → Prop) (s : Hp) (h : T_book_isSpan W n1 n2 n3 n4 R s) : Does Pg W F_book_isSpan #[(.agg #[(.int .i64 n1), (.int .i64 n2)]), (.int .i64 n3), (.int .i64 n4)] s R :=
  does_of_vfun Pg W an_111 Tryz.func111 rfl (by kernel_rfl) (Eq.mpr (by kernel_rfl) h)
def an_112 : Nat → Ann := fun b => match b with
 | _ => {}
abbrev rv_112 : List ResultVar := [.tmp 2]
abbrev rs_112 : List Nat := [6, 2]
def T_book_isFurrow_c2 (W : World) (n1 : Int) (n2 : Int) (R : Ending → Hp → Prop) : Hp → Prop :=
 NEW 74 [(.int .i64 n1), (.int .i64 n2)] fun B3 =>
 RDI .i64 (Addr.add ⟨B3, 0, none⟩ 0) fun n4 =>
 RDI .i64 (Addr.add ⟨B3, 0, none⟩ 1) fun n5 =>
 CALL Pg W F_book_isSpan [(.agg #[(.int .i64 n4), (.int .i64 n5)]), (.int .i64 1), (.int .i64 60)]
 (fun v6 => TYB v6 fun b8 =>
 R (.returned (.bool (!b8))))
 (fun e7 => R (.panicked e7))
theorem does_book_isFurrow_c2 (W : World) (n1 : Int) (n2 : Int) (R : Ending → Hp → Prop) (s : Hp) (h : T_book_isFurrow_c2 W n1 n2 R s) : Does Pg W F_book_isFurrow_c2 #[(.agg #[(.int .i64 n1), (.int .i64 n2)])] s R :=
  does_of_vfun Pg W an_112 Tryz.func112 rfl (by kernel_rfl) (Eq.mpr (by kernel_rfl) h)
def an_113 : Nat → Ann := fun b => match b with
 | _ => {}
abbrev rv_113 : List ResultVar := [.tmp 2]
abbrev rs_113 : List Nat := [6, 2]
def T_book_isFurrow_c3 (W : World) (n1 : Int) (n2 : Int) (R : Ending → Hp → Prop) : Hp → Prop :=
 NEW 74 [(.int .i64 n1), (.int .i64 n2)] fun B3 =>
 RDI .i64 (Addr.add ⟨B3, 0, none⟩ 0) fun n4 =>
 RDI .i64 (Addr.add ⟨B3, 0, none⟩ 1) fun n5 =>
 CALL Pg W F_book_isSpan [(.agg #[(.int .i64 n4), (.int .i64 n5)]), (.int .i64 0), (.int .i64 40)]
 (fun v6 => TYB v6 fun b8 =>
 R (.returned (.bool (!b8))))
 (fun e7 => R (.panicked e7))
theorem does_book_isFurrow_c3 (W : World) (n1 : Int) (n2 : Int) (R : Ending → Hp → Prop) (s : Hp) (h : T_book_isFurrow_c3 W n1 n2 R s) : Does Pg W F_book_isFurrow_c3 #[(.agg #[(.int .i64 n1), (.int .i64 n2)])] s R :=
  does_of_vfun Pg W an_113 Tryz.func113 rfl (by kernel_rfl) (Eq.mpr (by kernel_rfl) h)
def an_120 : Nat → Ann := fun b => match b with
 | _ => {}
abbrev rv_120 : List ResultVar := [.tmp 2]
abbrev rs_120 : List Nat := [4, 2]
def T_book_rows (W : World) (t1 : ByteArray) (R : Ending → Hp → Prop) : Hp → Prop :=
 NEW 9 [(.string t1)] fun B2 =>
 R (.returned (.func (.func 125) #[] #[(.pointer (some ⟨B2, 0, none⟩))]))
theorem does_book_rows (W : World) (t1 : ByteArray) (R : Ending → Hp → Prop) (s : Hp) (h : T_book_rows W t1 R s) : Does Pg W F_book_rows #[(.string t1)] s R :=
  does_of_vfun Pg W an_120 Tryz.func120 rfl (by kernel_rfl) (Eq.mpr (by kernel_rfl) h)
def an_121 : Nat → Ann := fun b => match b with
 | _ => {}
abbrev rv_121 : List ResultVar := [.tmp 2]
abbrev rs_121 : List Nat := [26, 2]
def T_book_row_part (W : World) (p1 : Option Addr) (R : Ending → Hp → Prop) : Hp → Prop :=
 SO p1 fun a2 =>
 RDL (Addr.add a2 0) fun x3 l4 c5 =>
 CALL Pg W F_book_need [(.bool (decide ((↑l4 : Int) > 0))), (.int .i64 8)]
 (fun v6 => TUP v6 fun q8 => NL q8 <|
 SO p1 fun a9 =>
 RDL (Addr.add a9 0) fun x10 l11 c12 =>
 IXS x10 l11 0 1 fun a13 =>
 RDS a13 fun t14 =>
 SO p1 fun a15 =>
 RDL (Addr.add a15 0) fun x16 l17 c18 =>
 SLS x16 c18 1 ↑l17 1 fun x19 l20 c21 =>
 SO p1 fun a22 =>
 WR (Addr.add (Addr.add a22 0) 0) (.slice x19 l20 c21) <|
 R (.returned (.string t14)))
 (fun e7 => R (.panicked e7))
theorem does_book_row_part (W : World) (p1 : Option Addr) (R : Ending → Hp → Prop) (s : Hp) (h : T_book_row_part W p1 R s) : Does Pg W F_book_row_part #[(.pointer p1)] s R :=
  does_of_vfun Pg W an_121 Tryz.func121 rfl (by kernel_rfl) (Eq.mpr (by kernel_rfl) h)
def an_125 : Nat → Ann := fun b => match b with
 | 0 => { ms := [], ks := [.s], us := [], rt := true, ex := [], pn := true }
 | _ => {}
abbrev rv_125 : List ResultVar := []
abbrev rs_125 : List Nat := [18]
def T_book_rows_c1 (W : World) (v1 : Value) (a2 : Addr) (R : Ending → Hp → Prop) : Hp → Prop :=
 ONE v1 <|
 NEW 192 [v1] fun B3 =>
 RDS a2 fun t4 =>
 CALL Pg W F_strings_HasSuffix [(.string t4), (.string ⟨#[10]⟩)]
 (fun v5 => TYB v5 fun b7 =>
 CALL Pg W F_book_need [(.bool b7), (.int .i64 8)]
 (fun v8 => TUP v8 fun q10 => NL q10 <|
 RDS a2 fun t11 =>
 CALL Pg W F_strings_Lines [(.string t11)]
 (fun v12 => RNGP Pg W v12 1
 (fun y14 fin15 pe16 => HD y14 fun v17 r18 => TYS v17 fun t19 =>
 NL r18 <|
 RDV ⟨B3, 0, none⟩ fun v20 =>
 CALL Pg W F_strings_TrimSuffix [(.string t19), (.string ⟨#[10]⟩)]
 (fun v21 => TYS v21 fun t23 =>
 ANDS (RDV ⟨B3, 0, none⟩ fun v24 =>
 fun _ => (v24 : Value) = v20) <|
 CALL Pg W F_strings_Split [(.string t23), (.string ⟨#[32]⟩)]
 (fun v25 => TYL v25 fun x27 l28 c29 =>
 ANDS (RDV ⟨B3, 0, none⟩ fun v30 =>
 fun _ => (v30 : Value) = v20) <|
 NEW 198 [(.slice x27 l28 c29)] fun B31 =>
 ANDS (RDV ⟨B3, 0, none⟩ fun v32 =>
 fun _ => (v32 : Value) = v20) <|
 CALLV Pg W v20 [(.pointer (some ⟨B31, 0, none⟩))]
 (fun v33 => TYB v33 fun b35 =>
 BR (!b35)
 (fin15 (some .ret))
 (fin15 none))
 (fun e34 => pe16 e34))
 (fun e26 => pe16 e26))
 (fun e22 => pe16 e22))
 (AFT
 (R (.returned (.tuple #[]))) (R (.returned (.tuple #[]))) (EXL [] fun _ => FF))
 (fun e36 => R (.panicked e36)))
 (fun e13 => R (.panicked e13)))
 (fun e9 => R (.panicked e9)))
 (fun e6 => R (.panicked e6))
theorem does_book_rows_c1 (W : World) (v1 : Value) (a2 : Addr) (R : Ending → Hp → Prop) (s : Hp) (h : T_book_rows_c1 W v1 a2 R s) : Does Pg W F_book_rows_c1 #[v1, (.pointer (some a2))] s R :=
  does_of_vfun Pg W an_125 Tryz.func125 rfl (by kernel_rfl) (Eq.mpr (by kernel_rfl) h)
def an_172 : Nat → Ann := fun b => match b with
 | _ => {}
abbrev rv_172 : List ResultVar := [.tmp 2]
abbrev rs_172 : List Nat := [8, 2]
def T_book_pegs_begins (W : World) (p1 : Option Addr) (R : Ending → Hp → Prop) : Hp → Prop :=
 NEW 145 [(.pointer p1)] fun B2 =>
 MKM fun B3 =>
 MUP Pg 177 (.map (some B3)) (.string ⟨#[102, 105, 101, 108, 100]⟩) (.func (.func 175) #[] #[(.pointer (some ⟨B2, 0, none⟩))]) <|
 MUP Pg 177 (.map (some B3)) (.string ⟨#[112, 111, 115, 116]⟩) (.func (.func 177) #[] #[(.pointer (some ⟨B2, 0, none⟩))]) <|
 MUP Pg 177 (.map (some B3)) (.string ⟨#[99, 104, 97, 105, 110]⟩) (.func (.func 179) #[] #[(.pointer (some ⟨B2, 0, none⟩))]) <|
 R (.returned (.map (some B3)))
theorem does_book_pegs_begins (W : World) (p1 : Option Addr) (R : Ending → Hp → Prop) (s : Hp) (h : T_book_pegs_begins W p1 R s) : Does Pg W F_book_pegs_begins #[(.pointer p1)] s R :=
  does_of_vfun Pg W an_172 Tryz.func172 rfl (by kernel_rfl) (Eq.mpr (by kernel_rfl) h)
def an_173 : Nat → Ann := fun b => match b with
 | _ => {}
abbrev rv_173 : List ResultVar := []
abbrev rs_173 : List Nat := [10]
def T_book_pegs_other (W : World) (p1 : Option Addr) (t2 : ByteArray) (p3 : Option Addr) (R : Ending → Hp → Prop) : Hp → Prop :=
 CALL Pg W F_book_strange_other [(.agg #[]), (.string t2), (.pointer p3)]
 (fun v4 => TUP v4 fun q6 => NL q6 <|
 R (.returned (.tuple #[])))
 (fun e5 => R (.panicked e5))
theorem does_book_pegs_other (W : World) (p1 : Option Addr) (t2 : ByteArray) (p3 : Option Addr) (R : Ending → Hp → Prop) (s : Hp) (h : T_book_pegs_other W p1 t2 p3 R s) : Does Pg W F_book_pegs_other #[(.pointer p1), (.string t2), (.pointer p3)] s R :=
  does_of_vfun Pg W an_173 Tryz.func173 rfl (by kernel_rfl) (Eq.mpr (by kernel_rfl) h)
def an_174 : Nat → Ann := fun b => match b with
 | 0 => { ms := [4, 24], ks := [.s, .i .i64], us := [0, 2, 3, 22, 23, 71], rt := false, ex := [] }
 | 2 => { ms := [4, 46], ks := [.s, .i .i64], us := [0, 2, 3, 44, 45, 71], rt := false, ex := [] }
 | _ => {}
abbrev rv_174 : List ResultVar := [.tmp 2, .tmp 3]
abbrev rs_174 : List Nat := [71, 2, 3]
def L_book_pegs_text_0 (W : World) (R : Ending → Hp → Prop) (zp0 : Option Addr) (zt1 : ByteArray) (zp2 : Option Addr) (zl3 : Nat) (zl4 : Nat) (zn5 : Int) (t12 : ByteArray) (n13 : Int) : Hp → Prop :=
 LOOPN [.s, .i .i64] (fun ys next s => ∀ j : Tm, vc Pg W 71 rs_174 an_174 false (sub (bodyOf Tryz.f174) [1, 1, 0, 1, 0, 0]) 0 (KLoop [4, 24] [0, 2, 3, 22, 23, 71] [(.pointer zp0), (.string zt1), (.bool false), (.slice zp2 zl3 zl4), (.int .i64 zn5), (.tuple #[])] next (KBlk 0 (KS Pg W 71 rs_174 an_174 false (sub (bodyOf Tryz.f174) [1, 1, 1]) 0 (fin Pg W 71 rv_174 R)))) (known [4, 24] ys (known [0, 2, 3, 22, 23, 71] [(.pointer zp0), (.string zt1), (.bool false), (.slice zp2 zl3 zl4), (.int .i64 zn5), (.tuple #[])] j)) s) [(.string t12), (.int .i64 n13)]
def L_book_pegs_text_1 (W : World) (R : Ending → Hp → Prop) (zp0 : Option Addr) (zt1 : ByteArray) (zp2 : Option Addr) (zl3 : Nat) (zl4 : Nat) (zn5 : Int) (t33 : ByteArray) (n34 : Int) : Hp → Prop :=
 LOOPN [.s, .i .i64] (fun ys next s => ∀ j : Tm, vc Pg W 71 rs_174 an_174 false (sub (bodyOf Tryz.f174) [1, 1, 1, 0, 1, 0, 0]) 2 (KLoop [4, 46] [0, 2, 3, 44, 45, 71] [(.pointer zp0), (.string zt1), (.bool false), (.slice zp2 zl3 zl4), (.int .i64 zn5), (.tuple #[])] next (KBlk 2 (KS Pg W 71 rs_174 an_174 false (sub (bodyOf Tryz.f174) [1, 1, 1, 1]) 0 (fin Pg W 71 rv_174 R)))) (known [4, 46] ys (known [0, 2, 3, 44, 45, 71] [(.pointer zp0), (.string zt1), (.bool false), (.slice zp2 zl3 zl4), (.int .i64 zn5), (.tuple #[])] j)) s) [(.string t33), (.int .i64 n34)]
def B_book_pegs_text_0 (W : World) (R : Ending → Hp → Prop) (zp0 : Option Addr) (zt1 : ByteArray) (zp2 : Option Addr) (zl3 : Nat) (zl4 : Nat) (zn5 : Int) (t12 : ByteArray) (n13 : Int) (nx0 : List Value → Hp → Prop) : Hp → Prop :=
 BR (decide (n13 < zn5))
 (IXS zp2 zl3 n13 4 fun a14 =>
 RDI .i64 (Addr.add a14 0) fun n15 =>
 RDI .i64 (Addr.add a14 1) fun n16 =>
 RDI .i64 (Addr.add a14 2) fun n17 =>
 RDI .i64 (Addr.add a14 3) fun n18 =>
 NEWZ Pg 77 fun B19 =>
 WR (Addr.add ⟨B19, 0, none⟩ 0) (.int .i64 n15) <|
 WR (Addr.add ⟨B19, 0, none⟩ 1) (.int .i64 n16) <|
 WR (Addr.add ⟨B19, 0, none⟩ 2) (.int .i64 n17) <|
 WR (Addr.add ⟨B19, 0, none⟩ 3) (.int .i64 n18) <|
 RDI .i64 (Addr.add (Addr.add ⟨B19, 0, none⟩ 0) 0) fun n20 =>
 RDI .i64 (Addr.add (Addr.add ⟨B19, 0, none⟩ 0) 1) fun n21 =>
 RDI .i64 (Addr.add (Addr.add ⟨B19, 0, none⟩ 2) 0) fun n22 =>
 RDI .i64 (Addr.add (Addr.add ⟨B19, 0, none⟩ 2) 1) fun n23 =>
 NEW 20 [(.iface 9 (.string ⟨#[112, 111, 115, 116]⟩)), (.iface 74 (.agg #[(.int .i64 n20), (.int .i64 n21)])), (.iface 74 (.agg #[(.int .i64 n22), (.int .i64 n23)]))] fun B24 =>
 CALL Pg W F_book_said [(.slice (some ⟨B24, 0, none⟩) 3 3)]
 (fun v25 => TYS v25 fun t27 =>
 STC t12 t27 fun t28 =>
 NX [(.pointer zp0), (.string zt1), (.bool false), (.slice zp2 zl3 zl4), (.int .i64 zn5), (.tuple #[])] [(.pointer zp0), (.string zt1), (.bool false), (.slice zp2 zl3 zl4), (.int .i64 zn5), (.tuple #[])] (nx0 [(.string t28), (.int .i64 (IntKind.wrap .i64 (n13 + 1)))]))
 (fun e26 => R (.panicked e26)))
 (SO zp0 fun a29 =>
 RDL (Addr.add (Addr.add a29 0) 2) fun x30 l31 c32 =>
 L_book_pegs_text_1 W R zp0 zt1 x30 l31 c32 (↑l31 : Int) t12 0)
theorem B_book_pegs_text_0_eq (W : World) (R : Ending → Hp → Prop) (zp0 : Option Addr) (zt1 : ByteArray) (zp2 : Option Addr) (zl3 : Nat) (zl4 : Nat) (zn5 : Int) (t12 : ByteArray) (n13 : Int) (nx0 : List Value → Hp → Prop) (j : Tm) : vc Pg W 71 rs_174 an_174 false (sub (bodyOf Tryz.f174) [1, 1, 0, 1, 0, 0]) 0 (KLoop [4, 24] [0, 2, 3, 22, 23, 71] [(.pointer zp0), (.string zt1), (.bool false), (.slice zp2 zl3 zl4), (.int .i64 zn5), (.tuple #[])] nx0 (KBlk 0 (KS Pg W 71 rs_174 an_174 false (sub (bodyOf Tryz.f174) [1, 1, 1]) 0 (fin Pg W 71 rv_174 R)))) (known [4, 24] [(.string t12), (.int .i64 n13)] (known [0, 2, 3, 22, 23, 71] [(.pointer zp0), (.string zt1), (.bool false), (.slice zp2 zl3 zl4), (.int .i64 zn5), (.tuple #[])] j)) = B_book_pegs_text_0 W R zp0 zt1 zp2 zl3 zl4 zn5 t12 n13 nx0 := by kernel_rfl
def N_book_pegs_text_0 (I : ByteArray → Int → Hp → Prop) (μ : ByteArray → Int → Hp → Nat) (t120 : ByteArray) (n130 : Int) (s : Hp) (vs : List Value) : Hp → Prop := fun s' => ∃ t12 n13, vs = [(.string t12), (.int .i64 n13)] ∧ I t12 n13 s' ∧ μ t12 n13 s' < μ t120 n130 s
theorem L_book_pegs_text_0_rule (W : World) (R : Ending → Hp → Prop) (zp0 : Option Addr) (zt1 : ByteArray) (zp2 : Option Addr) (zl3 : Nat) (zl4 : Nat) (zn5 : Int) (I : ByteArray → Int → Hp → Prop) (μ : ByteArray → Int → Hp → Nat) (t120 : ByteArray) (n130 : Int) (s : Hp) (h0 : I t120 n130 s)
    (hr : ∀ (t12 : ByteArray) (n13 : Int) (s : Hp), I t12 n13 s → B_book_pegs_text_0 W R zp0 zt1 zp2 zl3 zl4 zn5 t12 n13 (fun vs => N_book_pegs_text_0 I μ t12 n13 s vs) s) : L_book_pegs_text_0 W R zp0 zt1 zp2 zl3 zl4 zn5 t120 n130 s := by
  refine ⟨fun vs s => ∃ t12 n13, vs = [(.string t12), (.int .i64 n13)] ∧ I t12 n13 s, fun vs s => (match vs with | [.string t12, .int _ n13] => μ t12 n13 s | _ => 0), ⟨⟨⟨_, rfl⟩, ⟨⟨_, rfl⟩, trivial⟩⟩, ⟨_, _, rfl, h0⟩⟩, ?_⟩
  intro t12 n13 s hI j
  obtain ⟨t12', n13', hy, hI⟩ := hI
  have hI' : I t12 n13 s := by cases hy; exact hI
  have hh := hr t12 n13 s hI'
  rw [← B_book_pegs_text_0_eq W R zp0 zt1 zp2 zl3 zl4 zn5 t12 n13 _ j] at hh
  refine vc_mono ?_ _ _ hh
  exact KLoop_mono (fun vs s' h => by obtain ⟨t121, n131, rfl, h1, h2⟩ := h; exact ⟨⟨⟨_, rfl⟩, ⟨⟨_, rfl⟩, trivial⟩⟩, ⟨_, _, rfl, h1⟩, h2⟩)
def B_book_pegs_text_1 (W : World) (R : Ending → Hp → Prop) (zp0 : Option Addr) (zt1 : ByteArray) (zp2 : Option Addr) (zl3 : Nat) (zl4 : Nat) (zn5 : Int) (t33 : ByteArray) (n34 : Int) (nx1 : List Value → Hp → Prop) : Hp → Prop :=
 BR (decide (n34 < zn5))
 (IXS zp2 zl3 n34 4 fun a35 =>
 RDI .i64 (Addr.add a35 0) fun n36 =>
 RDI .i64 (Addr.add a35 1) fun n37 =>
 RDI .i64 (Addr.add a35 2) fun n38 =>
 RDI .i64 (Addr.add a35 3) fun n39 =>
 NEWZ Pg 83 fun B40 =>
 WR (Addr.add ⟨B40, 0, none⟩ 0) (.int .i64 n36) <|
 WR (Addr.add ⟨B40, 0, none⟩ 1) (.int .i64 n37) <|
 WR (Addr.add ⟨B40, 0, none⟩ 2) (.int .i64 n38) <|
 WR (Addr.add ⟨B40, 0, none⟩ 3) (.int .i64 n39) <|
 RDI .i64 (Addr.add ⟨B40, 0, none⟩ 0) fun n41 =>
 RDI .i64 (Addr.add ⟨B40, 0, none⟩ 1) fun n42 =>
 RDI .i64 (Addr.add (Addr.add ⟨B40, 0, none⟩ 2) 0) fun n43 =>
 RDI .i64 (Addr.add (Addr.add ⟨B40, 0, none⟩ 2) 1) fun n44 =>
 NEW 20 [(.iface 9 (.string ⟨#[99, 104, 97, 105, 110]⟩)), (.iface 3 (.int .i64 n41)), (.iface 3 (.int .i64 n42)), (.iface 74 (.agg #[(.int .i64 n43), (.int .i64 n44)]))] fun B45 =>
 CALL Pg W F_book_said [(.slice (some ⟨B45, 0, none⟩) 4 4)]
 (fun v46 => TYS v46 fun t48 =>
 STC t33 t48 fun t49 =>
 NX [(.pointer zp0), (.string zt1), (.bool false), (.slice zp2 zl3 zl4), (.int .i64 zn5), (.tuple #[])] [(.pointer zp0), (.string zt1), (.bool false), (.slice zp2 zl3 zl4), (.int .i64 zn5), (.tuple #[])] (nx1 [(.string t49), (.int .i64 (IntKind.wrap .i64 (n34 + 1)))]))
 (fun e47 => R (.panicked e47)))
 (SO zp0 fun a50 =>
 RDI .i64 (Addr.add (Addr.add a50 0) 0) fun n51 =>
 RDL (Addr.add (Addr.add a50 0) 1) fun x52 l53 c54 =>
 RDL (Addr.add (Addr.add a50 0) 2) fun x55 l56 c57 =>
 CALL Pg W F_book_isPegs [(.agg #[(.int .i64 n51), (.slice x52 l53 c54), (.slice x55 l56 c57)])]
 (fun v58 => TYB v58 fun b60 =>
 R (.returned (.tuple #[(.string t33), (.bool b60)])))
 (fun e59 => R (.panicked e59)))
theorem B_book_pegs_text_1_eq (W : World) (R : Ending → Hp → Prop) (zp0 : Option Addr) (zt1 : ByteArray) (zp2 : Option Addr) (zl3 : Nat) (zl4 : Nat) (zn5 : Int) (t33 : ByteArray) (n34 : Int) (nx1 : List Value → Hp → Prop) (j : Tm) : vc Pg W 71 rs_174 an_174 false (sub (bodyOf Tryz.f174) [1, 1, 1, 0, 1, 0, 0]) 2 (KLoop [4, 46] [0, 2, 3, 44, 45, 71] [(.pointer zp0), (.string zt1), (.bool false), (.slice zp2 zl3 zl4), (.int .i64 zn5), (.tuple #[])] nx1 (KBlk 2 (KS Pg W 71 rs_174 an_174 false (sub (bodyOf Tryz.f174) [1, 1, 1, 1]) 0 (fin Pg W 71 rv_174 R)))) (known [4, 46] [(.string t33), (.int .i64 n34)] (known [0, 2, 3, 44, 45, 71] [(.pointer zp0), (.string zt1), (.bool false), (.slice zp2 zl3 zl4), (.int .i64 zn5), (.tuple #[])] j)) = B_book_pegs_text_1 W R zp0 zt1 zp2 zl3 zl4 zn5 t33 n34 nx1 := by kernel_rfl
def N_book_pegs_text_1 (I : ByteArray → Int → Hp → Prop) (μ : ByteArray → Int → Hp → Nat) (t330 : ByteArray) (n340 : Int) (s : Hp) (vs : List Value) : Hp → Prop := fun s' => ∃ t33 n34, vs = [(.string t33), (.int .i64 n34)] ∧ I t33 n34 s' ∧ μ t33 n34 s' < μ t330 n340 s
theorem L_book_pegs_text_1_rule (W : World) (R : Ending → Hp → Prop) (zp0 : Option Addr) (zt1 : ByteArray) (zp2 : Option Addr) (zl3 : Nat) (zl4 : Nat) (zn5 : Int) (I : ByteArray → Int → Hp → Prop) (μ : ByteArray → Int → Hp → Nat) (t330 : ByteArray) (n340 : Int) (s : Hp) (h0 : I t330 n340 s)
    (hr : ∀ (t33 : ByteArray) (n34 : Int) (s : Hp), I t33 n34 s → B_book_pegs_text_1 W R zp0 zt1 zp2 zl3 zl4 zn5 t33 n34 (fun vs => N_book_pegs_text_1 I μ t33 n34 s vs) s) : L_book_pegs_text_1 W R zp0 zt1 zp2 zl3 zl4 zn5 t330 n340 s := by
  refine ⟨fun vs s => ∃ t33 n34, vs = [(.string t33), (.int .i64 n34)] ∧ I t33 n34 s, fun vs s => (match vs with | [.string t33, .int _ n34] => μ t33 n34 s | _ => 0), ⟨⟨⟨_, rfl⟩, ⟨⟨_, rfl⟩, trivial⟩⟩, ⟨_, _, rfl, h0⟩⟩, ?_⟩
  intro t33 n34 s hI j
  obtain ⟨t33', n34', hy, hI⟩ := hI
  have hI' : I t33 n34 s := by cases hy; exact hI
  have hh := hr t33 n34 s hI'
  rw [← B_book_pegs_text_1_eq W R zp0 zt1 zp2 zl3 zl4 zn5 t33 n34 _ j] at hh
  refine vc_mono ?_ _ _ hh
  exact KLoop_mono (fun vs s' h => by obtain ⟨t331, n341, rfl, h1, h2⟩ := h; exact ⟨⟨⟨_, rfl⟩, ⟨⟨_, rfl⟩, trivial⟩⟩, ⟨_, _, rfl, h1⟩, h2⟩)
def T_book_pegs_text (W : World) (p1 : Option Addr) (R : Ending → Hp → Prop) : Hp → Prop :=
 SO p1 fun a2 =>
 RDI .i64 (Addr.add (Addr.add a2 0) 0) fun n3 =>
 NEW 20 [(.iface 9 (.string ⟨#[102, 105, 101, 108, 100]⟩)), (.iface 3 (.int .i64 n3))] fun B4 =>
 CALL Pg W F_book_said [(.slice (some ⟨B4, 0, none⟩) 2 2)]
 (fun v5 => TYS v5 fun t7 =>
 SO p1 fun a8 =>
 RDL (Addr.add (Addr.add a8 0) 1) fun x9 l10 c11 =>
 L_book_pegs_text_0 W R p1 ⟨#[]⟩ x9 l10 c11 (↑l10 : Int) t7 0)
 (fun e6 => R (.panicked e6))
theorem does_book_pegs_text (W : World) (p1 : Option Addr) (R : Ending → Hp → Prop) (s : Hp) (h : T_book_pegs_text W p1 R s) : Does Pg W F_book_pegs_text #[(.pointer p1)] s R :=
  does_of_vfun Pg W an_174 Tryz.func174 rfl (by kernel_rfl) (Eq.mpr (by kernel_rfl) h)
def an_175 : Nat → Ann := fun b => match b with
 | _ => {}
abbrev rv_175 : List ResultVar := []
abbrev rs_175 : List Nat := [9]
def T_book_pegs_begins_c1 (W : World) (p1 : Option Addr) (a2 : Addr) (R : Ending → Hp → Prop) : Hp → Prop :=
 RDP a2 fun p3 =>
 CALL Pg W F_book_row_number [(.pointer p1)]
 (fun v4 => TYI .i64 v4 fun n6 =>
 ANDS (RDP a2 fun p7 =>
 fun _ => ((.pointer p7) : Value) = (.pointer p3)) <|
 SO p3 fun a8 =>
 WR (Addr.add (Addr.add (Addr.add a8 0) 0) 0) (.int .i64 n6) <|
 R (.returned (.tuple #[])))
 (fun e5 => R (.panicked e5))
theorem does_book_pegs_begins_c1 (W : World) (p1 : Option Addr) (a2 : Addr) (R : Ending → Hp → Prop) (s : Hp) (h : T_book_pegs_begins_c1 W p1 a2 R s) : Does Pg W F_book_pegs_begins_c1 #[(.pointer p1), (.pointer (some a2))] s R :=
  does_of_vfun Pg W an_175 Tryz.func175 rfl (by kernel_rfl) (Eq.mpr (by kernel_rfl) h)
def an_176 : Nat → Ann := fun b => match b with
 | _ => {}
abbrev rv_176 : List ResultVar := [.tmp 2]
abbrev rs_176 : List Nat := [6, 2]
def T_book_row_number (W : World) (p1 : Option Addr) (R : Ending → Hp → Prop) : Hp → Prop :=
 CALL Pg W F_book_row_part [(.pointer p1)]
 (fun v2 => TYS v2 fun t4 =>
 CALL Pg W F_book_figure [(.string t4)]
 (fun v5 => TYI .i64 v5 fun n7 =>
 R (.returned (.int .i64 n7)))
 (fun e6 => R (.panicked e6)))
 (fun e3 => R (.panicked e3))
theorem does_book_row_number (W : World) (p1 : Option Addr) (R : Ending → Hp → Prop) (s : Hp) (h : T_book_row_number W p1 R s) : Does Pg W F_book_row_number #[(.pointer p1)] s R :=
  does_of_vfun Pg W an_176 Tryz.func176 rfl (by kernel_rfl) (Eq.mpr (by kernel_rfl) h)
def an_177 : Nat → Ann := fun b => match b with
 | _ => {}
abbrev rv_177 : List ResultVar := []
abbrev rs_177 : List Nat := [19]
def T_book_pegs_begins_c2 (W : World) (p1 : Option Addr) (a2 : Addr) (R : Ending → Hp → Prop) : Hp → Prop :=
 RDP a2 fun p3 =>
 RDP a2 fun p4 =>
 SO p4 fun a5 =>
 RDL (Addr.add (Addr.add a5 0) 1) fun x6 l7 c8 =>
 CALL Pg W F_book_row_span [(.pointer p1)]
 (fun v9 => AGG v9 fun q11 => HD q11 fun v12 r13 => TYI .i64 v12 fun n14 =>
 HD r13 fun v15 r16 => TYI .i64 v15 fun n17 =>
 NL r16 <|
 ANDS (RDL (Addr.add (Addr.add a5 0) 1) fun x18 l19 c20 =>
 fun _ => ((.slice x18 l19 c20) : Value) = (.slice x6 l7 c8)) <|
 ANDS (RDP a2 fun p21 =>
 fun _ => ((.pointer p21) : Value) = (.pointer p4)) <|
 ANDS (RDP a2 fun p22 =>
 fun _ => ((.pointer p22) : Value) = (.pointer p3)) <|
 CALL Pg W F_book_row_span [(.pointer p1)]
 (fun v23 => AGG v23 fun q25 => HD q25 fun v26 r27 => TYI .i64 v26 fun n28 =>
 HD r27 fun v29 r30 => TYI .i64 v29 fun n31 =>
 NL r30 <|
 ANDS (RDL (Addr.add (Addr.add a5 0) 1) fun x32 l33 c34 =>
 fun _ => ((.slice x32 l33 c34) : Value) = (.slice x6 l7 c8)) <|
 ANDS (RDP a2 fun p35 =>
 fun _ => ((.pointer p35) : Value) = (.pointer p4)) <|
 ANDS (RDP a2 fun p36 =>
 fun _ => ((.pointer p36) : Value) = (.pointer p3)) <|
 NEW 77 [(.int .i64 n14), (.int .i64 n17), (.int .i64 n28), (.int .i64 n31)] fun B37 =>
 ANDS (RDL (Addr.add (Addr.add a5 0) 1) fun x38 l39 c40 =>
 fun _ => ((.slice x38 l39 c40) : Value) = (.slice x6 l7 c8)) <|
 ANDS (RDP a2 fun p41 =>
 fun _ => ((.pointer p41) : Value) = (.pointer p4)) <|
 ANDS (RDP a2 fun p42 =>
 fun _ => ((.pointer p42) : Value) = (.pointer p3)) <|
 APP Pg 77 4 x6 l7 c8 (some ⟨B37, 0, none⟩) 1 fun x43 l44 c45 =>
 ANDS (RDP a2 fun p46 =>
 fun _ => ((.pointer p46) : Value) = (.pointer p3)) <|
 SO p3 fun a47 =>
 WR (Addr.add (Addr.add (Addr.add a47 0) 1) 0) (.slice x43 l44 c45) <|
 R (.returned (.tuple #[])))
 (fun e24 => R (.panicked e24)))
 (fun e10 => R (.panicked e10))
theorem does_book_pegs_begins_c2 (W : World) (p1 : Option Addr) (a2 : Addr) (R : Ending → Hp → Prop) (s : Hp) (h : T_book_pegs_begins_c2 W p1 a2 R s) : Does Pg W F_book_pegs_begins_c2 #[(.pointer p1), (.pointer (some a2))] s R :=
  does_of_vfun Pg W an_177 Tryz.func177 rfl (by kernel_rfl) (Eq.mpr (by kernel_rfl) h)
def an_178 : Nat → Ann := fun b => match b with
 | _ => {}
abbrev rv_178 : List ResultVar := [.cell 2 74]
abbrev rs_178 : List Nat := [20, 2]
def T_book_row_span (W : World) (p1 : Option Addr) (R : Ending → Hp → Prop) : Hp → Prop :=
 NEWZ Pg 74 fun B2 =>
 CALL Pg W F_book_row_part [(.pointer p1)]
 (fun v3 => TYS v3 fun t5 =>
 CALL Pg W F_strings_Cut [(.string t5), (.string ⟨#[46, 46]⟩)]
 (fun v6 => TUP v6 fun q8 => HD q8 fun v9 r10 => TYS v9 fun t11 =>
 HD r10 fun v12 r13 => TYS v12 fun t14 =>
 HD r13 fun v15 r16 => TYB v15 fun b17 =>
 NL r16 <|
 CALL Pg W F_book_need [(.bool b17), (.int .i64 8)]
 (fun v18 => TUP v18 fun q20 => NL q20 <|
 CALL Pg W F_book_figure [(.string t11)]
 (fun v21 => TYI .i64 v21 fun n23 =>
 CALL Pg W F_book_figure [(.string t14)]
 (fun v24 => TYI .i64 v24 fun n26 =>
 WR (Addr.add ⟨B2, 0, none⟩ 0) (.int .i64 n23) <|
 WR (Addr.add ⟨B2, 0, none⟩ 1) (.int .i64 n26) <|
 RDI .i64 (Addr.add ⟨B2, 0, none⟩ 0) fun n27 =>
 RDI .i64 (Addr.add ⟨B2, 0, none⟩ 1) fun n28 =>
 R (.returned (.agg #[(.int .i64 n27), (.int .i64 n28)])))
 (fun e25 => R (.panicked e25)))
 (fun e22 => R (.panicked e22)))
 (fun e19 => R (.panicked e19)))
 (fun e7 => R (.panicked e7)))
 (fun e4 => R (.panicked e4))
theorem does_book_row_span (W : World) (p1 : Option Addr) (R : Ending → Hp → Prop) (s : Hp) (h : T_book_row_span W p1 R s) : Does Pg W F_book_row_span #[(.pointer p1)] s R :=
  does_of_vfun Pg W an_178 Tryz.func178 rfl (by kernel_rfl) (Eq.mpr (by kernel_rfl) h)
def an_179 : Nat → Ann := fun b => match b with
 | _ => {}
abbrev rv_179 : List ResultVar := []
abbrev rs_179 : List Nat := [21]
def T_book_pegs_begins_c3 (W : World) (p1 : Option Addr) (a2 : Addr) (R : Ending → Hp → Prop) : Hp → Prop :=
 RDP a2 fun p3 =>
 RDP a2 fun p4 =>
 SO p4 fun a5 =>
 RDL (Addr.add (Addr.add a5 0) 2) fun x6 l7 c8 =>
 CALL Pg W F_book_row_number [(.pointer p1)]
 (fun v9 => TYI .i64 v9 fun n11 =>
 ANDS (RDL (Addr.add (Addr.add a5 0) 2) fun x12 l13 c14 =>
 fun _ => ((.slice x12 l13 c14) : Value) = (.slice x6 l7 c8)) <|
 ANDS (RDP a2 fun p15 =>
 fun _ => ((.pointer p15) : Value) = (.pointer p4)) <|
 ANDS (RDP a2 fun p16 =>
 fun _ => ((.pointer p16) : Value) = (.pointer p3)) <|
 CALL Pg W F_book_row_number [(.pointer p1)]
 (fun v17 => TYI .i64 v17 fun n19 =>
 ANDS (RDL (Addr.add (Addr.add a5 0) 2) fun x20 l21 c22 =>
 fun _ => ((.slice x20 l21 c22) : Value) = (.slice x6 l7 c8)) <|
 ANDS (RDP a2 fun p23 =>
 fun _ => ((.pointer p23) : Value) = (.pointer p4)) <|
 ANDS (RDP a2 fun p24 =>
 fun _ => ((.pointer p24) : Value) = (.pointer p3)) <|
 CALL Pg W F_book_row_span [(.pointer p1)]
 (fun v25 => AGG v25 fun q27 => HD q27 fun v28 r29 => TYI .i64 v28 fun n30 =>
 HD r29 fun v31 r32 => TYI .i64 v31 fun n33 =>
 NL r32 <|
 ANDS (RDL (Addr.add (Addr.add a5 0) 2) fun x34 l35 c36 =>
 fun _ => ((.slice x34 l35 c36) : Value) = (.slice x6 l7 c8)) <|
 ANDS (RDP a2 fun p37 =>
 fun _ => ((.pointer p37) : Value) = (.pointer p4)) <|
 ANDS (RDP a2 fun p38 =>
 fun _ => ((.pointer p38) : Value) = (.pointer p3)) <|
 NEW 83 [(.int .i64 n11), (.int .i64 n19), (.int .i64 n30), (.int .i64 n33)] fun B39 =>
 ANDS (RDL (Addr.add (Addr.add a5 0) 2) fun x40 l41 c42 =>
 fun _ => ((.slice x40 l41 c42) : Value) = (.slice x6 l7 c8)) <|
 ANDS (RDP a2 fun p43 =>
 fun _ => ((.pointer p43) : Value) = (.pointer p4)) <|
 ANDS (RDP a2 fun p44 =>
 fun _ => ((.pointer p44) : Value) = (.pointer p3)) <|
 APP Pg 83 4 x6 l7 c8 (some ⟨B39, 0, none⟩) 1 fun x45 l46 c47 =>
 ANDS (RDP a2 fun p48 =>
 fun _ => ((.pointer p48) : Value) = (.pointer p3)) <|
 SO p3 fun a49 =>
 WR (Addr.add (Addr.add (Addr.add a49 0) 2) 0) (.slice x45 l46 c47) <|
 R (.returned (.tuple #[])))
 (fun e26 => R (.panicked e26)))
 (fun e18 => R (.panicked e18)))
 (fun e10 => R (.panicked e10))
theorem does_book_pegs_begins_c3 (W : World) (p1 : Option Addr) (a2 : Addr) (R : Ending → Hp → Prop) (s : Hp) (h : T_book_pegs_begins_c3 W p1 a2 R s) : Does Pg W F_book_pegs_begins_c3 #[(.pointer p1), (.pointer (some a2))] s R :=
  does_of_vfun Pg W an_179 Tryz.func179 rfl (by kernel_rfl) (Eq.mpr (by kernel_rfl) h)
def an_180 : Nat → Ann := fun b => match b with
 | _ => {}
abbrev rv_180 : List ResultVar := []
abbrev rs_180 : List Nat := [7]
def T_book_strange_other (W : World) (t1 : ByteArray) (p2 : Option Addr) (R : Ending → Hp → Prop) : Hp → Prop :=
 NEW 238 [] fun B3 =>
 CALL Pg W F_book_need [(.bool false), (.int .i64 8)]
 (fun v4 => TUP v4 fun q6 => NL q6 <|
 R (.returned (.tuple #[])))
 (fun e5 => R (.panicked e5))
theorem does_book_strange_other (W : World) (t1 : ByteArray) (p2 : Option Addr) (R : Ending → Hp → Prop) (s : Hp) (h : T_book_strange_other W t1 p2 R s) : Does Pg W F_book_strange_other #[(.agg #[]), (.string t1), (.pointer p2)] s R :=
  does_of_vfun Pg W an_180 Tryz.func180 rfl (by kernel_rfl) (Eq.mpr (by kernel_rfl) h)
def an_181 : Nat → Ann := fun b => match b with
 | 0 => { ms := [3, 15], ks := [.l, .i .i64], us := [2, 13, 14, 76], rt := false, ex := [] }
 | 3 => { ms := [3, 40], ks := [.l, .i .i64], us := [2, 13, 14, 15, 38, 39, 76], rt := false, ex := [] }
 | _ => {}
abbrev rv_181 : List ResultVar := [.tmp 2]
abbrev rs_181 : List Nat := [76, 2]
def L_book_said_0 (W : World) (R : Ending → Hp → Prop) (zt0 : ByteArray) (zp1 : Option Addr) (zl2 : Nat) (zl3 : Nat) (zn4 : Int) (x4 : Option Addr) (l5 : Nat) (c6 : Nat) (n7 : Int) : Hp → Prop :=
 LOOPN [.l, .i .i64] (fun ys next s => ∀ j : Tm, vc Pg W 76 rs_181 an_181 false (sub (bodyOf Tryz.f181) [1, 1, 0, 1, 0, 0]) 0 (KLoop [3, 15] [2, 13, 14, 76] [(.string zt0), (.slice zp1 zl2 zl3), (.int .i64 zn4), (.tuple #[])] next (KBlk 0 (KS Pg W 76 rs_181 an_181 false (sub (bodyOf Tryz.f181) [1, 1, 1]) 0 (fin Pg W 76 rv_181 R)))) (known [3, 15] ys (known [2, 13, 14, 76] [(.string zt0), (.slice zp1 zl2 zl3), (.int .i64 zn4), (.tuple #[])] j)) s) [(.slice x4 l5 c6), (.int .i64 n7)]
def L_book_said_1 (W : World) (R : Ending → Hp → Prop) (nx0 : List Value → Hp → Prop) (zt0 : ByteArray) (zp1 : Option Addr) (zl2 : Nat) (zl3 : Nat) (zn4 : Int) (zn5 : Int) (zp6 : Option Addr) (zl7 : Nat) (zl8 : Nat) (zn9 : Int) (x84 : Option Addr) (l85 : Nat) (c86 : Nat) (n87 : Int) : Hp → Prop :=
 LOOPN [.l, .i .i64] (fun ys next s => ∀ j : Tm, vc Pg W 76 rs_181 an_181 false (sub (bodyOf Tryz.f181) [1, 1, 0, 1, 0, 0, 1, 1, 0, 0, 1, 1, 0, 1, 1, 1, 1, 1, 0, 1, 1, 0, 0]) 3 (KLoop [3, 40] [2, 13, 14, 15, 38, 39, 76] [(.string zt0), (.slice zp1 zl2 zl3), (.int .i64 zn4), (.int .i64 zn5), (.slice zp6 zl7 zl8), (.int .i64 zn9), (.tuple #[])] next (KBlk 3 (KBlk 2 (KBlk 1 (KS Pg W 76 rs_181 an_181 false (sub (bodyOf Tryz.f181) [1, 1, 0, 1, 0, 0, 1, 1, 1]) 0 (KLoop [3, 15] [2, 13, 14, 76] [(.string zt0), (.slice zp1 zl2 zl3), (.int .i64 zn4), (.tuple #[])] nx0 (KBlk 0 (KS Pg W 76 rs_181 an_181 false (sub (bodyOf Tryz.f181) [1, 1, 1]) 0 (fin Pg W 76 rv_181 R))))))))) (known [3, 40] ys (known [2, 13, 14, 15, 38, 39, 76] [(.string zt0), (.slice zp1 zl2 zl3), (.int .i64 zn4), (.int .i64 zn5), (.slice zp6 zl7 zl8), (.int .i64 zn9), (.tuple #[])] j)) s) [(.slice x84 l85 c86), (.int .i64 n87)]
def B_book_said_0 (W : World) (R : Ending → Hp → Prop) (zt0 : ByteArray) (zp1 : Option Addr) (zl2 : Nat) (zl3 : Nat) (zn4 : Int) (x4 : Option Addr) (l5 : Nat) (c6 : Nat) (n7 : Int) (nx0 : List Value → Hp → Prop) : Hp → Prop :=
 BR (decide (n7 < zn4))
 (IXS zp1 zl2 n7 1 fun a8 =>
 RDV a8 fun v9 =>
 IFC v9 fun w10 v11 =>
 BR (Nat.beq w10 9)
 (TYS v11 fun t12 =>
 NEW 9 [(.string t12)] fun B13 =>
 APP Pg 9 1 x4 l5 c6 (some ⟨B13, 0, none⟩) 1 fun x14 l15 c16 =>
 NX [(.string zt0), (.slice zp1 zl2 zl3), (.int .i64 zn4), (.tuple #[])] [(.string zt0), (.slice zp1 zl2 zl3), (.int .i64 zn4), (.tuple #[])] (nx0 [(.slice x14 l15 c16), (.int .i64 (IntKind.wrap .i64 (n7 + 1)))]))
 (IFC v9 fun w17 v18 =>
 BR (Nat.beq w17 3)
 (TYC .i64 v18 fun n19 =>
 CALL Pg W F_strconv_Itoa [(.int .i64 n19)]
 (fun v20 => TYS v20 fun t22 =>
 NEW 9 [(.string t22)] fun B23 =>
 APP Pg 9 1 x4 l5 c6 (some ⟨B23, 0, none⟩) 1 fun x24 l25 c26 =>
 NX [(.string zt0), (.slice zp1 zl2 zl3), (.int .i64 zn4), (.tuple #[])] [(.string zt0), (.slice zp1 zl2 zl3), (.int .i64 zn4), (.tuple #[])] (nx0 [(.slice x24 l25 c26), (.int .i64 (IntKind.wrap .i64 (n7 + 1)))]))
 (fun e21 => R (.panicked e21)))
 (IFC v9 fun w27 v28 =>
 BR (Nat.beq w27 26)
 (TYL v28 fun x29 l30 c31 =>
 L_book_said_1 W R nx0 zt0 zp1 zl2 zl3 zn4 n7 x29 l30 c31 (↑l30 : Int) x4 l5 c6 0)
 (IFC v9 fun w32 v33 =>
 BR (Nat.beq w32 74)
 (AGG v33 fun q34 => HD q34 fun v35 r36 => TYC .i64 v35 fun n37 =>
 HD r36 fun v38 r39 => TYC .i64 v38 fun n40 =>
 NL r39 <|
 NEWZ Pg 74 fun B41 =>
 WR (Addr.add ⟨B41, 0, none⟩ 0) (.int .i64 n37) <|
 WR (Addr.add ⟨B41, 0, none⟩ 1) (.int .i64 n40) <|
 RDI .i64 (Addr.add ⟨B41, 0, none⟩ 0) fun n42 =>
 RDI .i64 (Addr.add ⟨B41, 0, none⟩ 1) fun n43 =>
 CALL Pg W F_strconv_Itoa [(.int .i64 n42)]
 (fun v44 => TYS v44 fun t46 =>
 ANDS (RDI .i64 (Addr.add ⟨B41, 0, none⟩ 1) fun n47 =>
 fun _ => ((.int .i64 n47) : Value) = (.int .i64 n43)) <|
 STC t46 ⟨#[46, 46]⟩ fun t48 =>
 CALL Pg W F_strconv_Itoa [(.int .i64 n43)]
 (fun v49 => TYS v49 fun t51 =>
 STC t48 t51 fun t52 =>
 NEW 9 [(.string t52)] fun B53 =>
 APP Pg 9 1 x4 l5 c6 (some ⟨B53, 0, none⟩) 1 fun x54 l55 c56 =>
 NX [(.string zt0), (.slice zp1 zl2 zl3), (.int .i64 zn4), (.tuple #[])] [(.string zt0), (.slice zp1 zl2 zl3), (.int .i64 zn4), (.tuple #[])] (nx0 [(.slice x54 l55 c56), (.int .i64 (IntKind.wrap .i64 (n7 + 1)))]))
 (fun e50 => R (.panicked e50)))
 (fun e45 => R (.panicked e45)))
 (IFC v9 fun w57 v58 =>
 BR (Nat.beq w57 79)
 (AGG v58 fun q59 => HD q59 fun v60 r61 => TYB v60 fun b62 =>
 HD r61 fun v63 r64 => TYC .i64 v63 fun n65 =>
 HD r64 fun v66 r67 => TYB v66 fun b68 =>
 NL r67 <|
 NEWZ Pg 79 fun B69 =>
 WR (Addr.add ⟨B69, 0, none⟩ 0) (.bool b62) <|
 WR (Addr.add ⟨B69, 0, none⟩ 1) (.int .i64 n65) <|
 WR (Addr.add ⟨B69, 0, none⟩ 2) (.bool b68) <|
 RDB (Addr.add ⟨B69, 0, none⟩ 0) fun b70 =>
 RDI .i64 (Addr.add ⟨B69, 0, none⟩ 1) fun n71 =>
 RDB (Addr.add ⟨B69, 0, none⟩ 2) fun b72 =>
 CALL Pg W F_book_worded [(.agg #[(.bool b70), (.int .i64 n71), (.bool b72)])]
 (fun v73 => TYS v73 fun t75 =>
 NEW 9 [(.string t75)] fun B76 =>
 APP Pg 9 1 x4 l5 c6 (some ⟨B76, 0, none⟩) 1 fun x77 l78 c79 =>
 NX [(.string zt0), (.slice zp1 zl2 zl3), (.int .i64 zn4), (.tuple #[])] [(.string zt0), (.slice zp1 zl2 zl3), (.int .i64 zn4), (.tuple #[])] (nx0 [(.slice x77 l78 c79), (.int .i64 (IntKind.wrap .i64 (n7 + 1)))]))
 (fun e74 => R (.panicked e74)))
 (NX [(.string zt0), (.slice zp1 zl2 zl3), (.int .i64 zn4), (.tuple #[])] [(.string zt0), (.slice zp1 zl2 zl3), (.int .i64 zn4), (.tuple #[])] (nx0 [(.slice x4 l5 c6), (.int .i64 (IntKind.wrap .i64 (n7 + 1)))])))))))
 (CALL Pg W F_strings_Join [(.slice x4 l5 c6), (.string ⟨#[32]⟩)]
 (fun v80 => TYS v80 fun t82 =>
 STC t82 ⟨#[10]⟩ fun t83 =>
 R (.returned (.string t83)))
 (fun e81 => R (.panicked e81)))
theorem B_book_said_0_eq (W : World) (R : Ending → Hp → Prop) (zt0 : ByteArray) (zp1 : Option Addr) (zl2 : Nat) (zl3 : Nat) (zn4 : Int) (x4 : Option Addr) (l5 : Nat) (c6 : Nat) (n7 : Int) (nx0 : List Value → Hp → Prop) (j : Tm) : vc Pg W 76 rs_181 an_181 false (sub (bodyOf Tryz.f181) [1, 1, 0, 1, 0, 0]) 0 (KLoop [3, 15] [2, 13, 14, 76] [(.string zt0), (.slice zp1 zl2 zl3), (.int .i64 zn4), (.tuple #[])] nx0 (KBlk 0 (KS Pg W 76 rs_181 an_181 false (sub (bodyOf Tryz.f181) [1, 1, 1]) 0 (fin Pg W 76 rv_181 R)))) (known [3, 15] [(.slice x4 l5 c6), (.int .i64 n7)] (known [2, 13, 14, 76] [(.string zt0), (.slice zp1 zl2 zl3), (.int .i64 zn4), (.tuple #[])] j)) = B_book_said_0 W R zt0 zp1 zl2 zl3 zn4 x4 l5 c6 n7 nx0 := by kernel_rfl
def N_book_said_0 (I : Option Addr → Nat → Nat → Int → Hp → Prop) (μ : Option Addr → Nat → Nat → Int → Hp → Nat) (x40 : Option Addr) (l50 : Nat) (c60 : Nat) (n70 : Int) (s : Hp) (vs : List Value) : Hp → Prop := fun s' => ∃ x4 l5 c6 n7, vs = [(.slice x4 l5 c6), (.int .i64 n7)] ∧ I x4 l5 c6 n7 s' ∧ μ x4 l5 c6 n7 s' < μ x40 l50 c60 n70 s
theorem L_book_said_0_rule (W : World) (R : Ending → Hp → Prop) (zt0 : ByteArray) (zp1 : Option Addr) (zl2 : Nat) (zl3 : Nat) (zn4 : Int) (I : Option Addr → Nat → Nat → Int → Hp → Prop) (μ : Option Addr → Nat → Nat → Int → Hp → Nat) (x40 : Option Addr) (l50 : Nat) (c60 : Nat) (n70 : Int) (s : Hp) (h0 : I x40 l50 c60 n70 s)
    (hr : ∀ (x4 : Option Addr) (l5 : Nat) (c6 : Nat) (n7 : Int) (s : Hp), I x4 l5 c6 n7 s → B_book_said_0 W R zt0 zp1 zl2 zl3 zn4 x4 l5 c6 n7 (fun vs => N_book_said_0 I μ x4 l5 c6 n7 s vs) s) : L_book_said_0 W R zt0 zp1 zl2 zl3 zn4 x40 l50 c60 n70 s := by
  refine ⟨fun vs s => ∃ x4 l5 c6 n7, vs = [(.slice x4 l5 c6), (.int .i64 n7)] ∧ I x4 l5 c6 n7 s, fun vs s => (match vs with | [.slice x4 l5 c6, .int _ n7] => μ x4 l5 c6 n7 s | _ => 0), ⟨⟨⟨_, _, _, rfl⟩, ⟨⟨_, rfl⟩, trivial⟩⟩, ⟨_, _, _, _, rfl, h0⟩⟩, ?_⟩
  intro x4 l5 c6 n7 s hI j
  obtain ⟨x4', l5', c6', n7', hy, hI⟩ := hI
  have hI' : I x4 l5 c6 n7 s := by cases hy; exact hI
  have hh := hr x4 l5 c6 n7 s hI'
  rw [← B_book_said_0_eq W R zt0 zp1 zl2 zl3 zn4 x4 l5 c6 n7 _ j] at hh
  refine vc_mono ?_ _ _ hh
  exact KLoop_mono (fun vs s' h => by obtain ⟨x41, l51, c61, n71, rfl, h1, h2⟩ := h; exact ⟨⟨⟨_, _, _, rfl⟩, ⟨⟨_, rfl⟩, trivial⟩⟩, ⟨_, _, _, _, rfl, h1⟩, h2⟩)
def B_book_said_1 (W : World) (R : Ending → Hp → Prop) (nx0 : List Value → Hp → Prop) (zt0 : ByteArray) (zp1 : Option Addr) (zl2 : Nat) (zl3 : Nat) (zn4 : Int) (zn5 : Int) (zp6 : Option Addr) (zl7 : Nat) (zl8 : Nat) (zn9 : Int) (x84 : Option Addr) (l85 : Nat) (c86 : Nat) (n87 : Int) (nx1 : List Value → Hp → Prop) : Hp → Prop :=
 BR (decide (n87 < zn9))
 (IXS zp6 zl7 n87 1 fun a88 =>
 RDI .i64 a88 fun n89 =>
 CALL Pg W F_strconv_Itoa [(.int .i64 n89)]
 (fun v90 => TYS v90 fun t92 =>
 NEW 9 [(.string t92)] fun B93 =>
 APP Pg 9 1 x84 l85 c86 (some ⟨B93, 0, none⟩) 1 fun x94 l95 c96 =>
 NX [(.string zt0), (.slice zp1 zl2 zl3), (.int .i64 zn4), (.int .i64 zn5), (.slice zp6 zl7 zl8), (.int .i64 zn9), (.tuple #[])] [(.string zt0), (.slice zp1 zl2 zl3), (.int .i64 zn4), (.int .i64 zn5), (.slice zp6 zl7 zl8), (.int .i64 zn9), (.tuple #[])] (nx1 [(.slice x94 l95 c96), (.int .i64 (IntKind.wrap .i64 (n87 + 1)))]))
 (fun e91 => R (.panicked e91)))
 (NX [(.string zt0), (.slice zp1 zl2 zl3), (.int .i64 zn4), (.tuple #[])] [(.string zt0), (.slice zp1 zl2 zl3), (.int .i64 zn4), (.tuple #[])] (nx0 [(.slice x84 l85 c86), (.int .i64 (IntKind.wrap .i64 (zn5 + 1)))]))
theorem B_book_said_1_eq (W : World) (R : Ending → Hp → Prop) (nx0 : List Value → Hp → Prop) (zt0 : ByteArray) (zp1 : Option Addr) (zl2 : Nat) (zl3 : Nat) (zn4 : Int) (zn5 : Int) (zp6 : Option Addr) (zl7 : Nat) (zl8 : Nat) (zn9 : Int) (x84 : Option Addr) (l85 : Nat) (c86 : Nat) (n87 : Int) (nx1 : List Value → Hp → Prop) (j : Tm) : vc Pg W 76 rs_181 an_181 false (sub (bodyOf Tryz.f181) [1, 1, 0, 1, 0, 0, 1, 1, 0, 0, 1, 1, 0, 1, 1, 1, 1, 1, 0, 1, 1, 0, 0]) 3 (KLoop [3, 40] [2, 13, 14, 15, 38, 39, 76] [(.string zt0), (.slice zp1 zl2 zl3), (.int .i64 zn4), (.int .i64 zn5), (.slice zp6 zl7 zl8), (.int .i64 zn9), (.tuple #[])] nx1 (KBlk 3 (KBlk 2 (KBlk 1 (KS Pg W 76 rs_181 an_181 false (sub (bodyOf Tryz.f181) [1, 1, 0, 1, 0, 0, 1, 1, 1]) 0 (KLoop [3, 15] [2, 13, 14, 76] [(.string zt0), (.slice zp1 zl2 zl3), (.int .i64 zn4), (.tuple #[])] nx0 (KBlk 0 (KS Pg W 76 rs_181 an_181 false (sub (bodyOf Tryz.f181) [1, 1, 1]) 0 (fin Pg W 76 rv_181 R))))))))) (known [3, 40] [(.slice x84 l85 c86), (.int .i64 n87)] (known [2, 13, 14, 15, 38, 39, 76] [(.string zt0), (.slice zp1 zl2 zl3), (.int .i64 zn4), (.int .i64 zn5), (.slice zp6 zl7 zl8), (.int .i64 zn9), (.tuple #[])] j)) = B_book_said_1 W R nx0 zt0 zp1 zl2 zl3 zn4 zn5 zp6 zl7 zl8 zn9 x84 l85 c86 n87 nx1 := by kernel_rfl
def N_book_said_1 (I : Option Addr → Nat → Nat → Int → Hp → Prop) (μ : Option Addr → Nat → Nat → Int → Hp → Nat) (x840 : Option Addr) (l850 : Nat) (c860 : Nat) (n870 : Int) (s : Hp) (vs : List Value) : Hp → Prop := fun s' => ∃ x84 l85 c86 n87, vs = [(.slice x84 l85 c86), (.int .i64 n87)] ∧ I x84 l85 c86 n87 s' ∧ μ x84 l85 c86 n87 s' < μ x840 l850 c860 n870 s
theorem L_book_said_1_rule (W : World) (R : Ending → Hp → Prop) (nx0 : List Value → Hp → Prop) (zt0 : ByteArray) (zp1 : Option Addr) (zl2 : Nat) (zl3 : Nat) (zn4 : Int) (zn5 : Int) (zp6 : Option Addr) (zl7 : Nat) (zl8 : Nat) (zn9 : Int) (I : Option Addr → Nat → Nat → Int → Hp → Prop) (μ : Option Addr → Nat → Nat → Int → Hp → Nat) (x840 : Option Addr) (l850 : Nat) (c860 : Nat) (n870 : Int) (s : Hp) (h0 : I x840 l850 c860 n870 s)
    (hr : ∀ (x84 : Option Addr) (l85 : Nat) (c86 : Nat) (n87 : Int) (s : Hp), I x84 l85 c86 n87 s → B_book_said_1 W R nx0 zt0 zp1 zl2 zl3 zn4 zn5 zp6 zl7 zl8 zn9 x84 l85 c86 n87 (fun vs => N_book_said_1 I μ x84 l85 c86 n87 s vs) s) : L_book_said_1 W R nx0 zt0 zp1 zl2 zl3 zn4 zn5 zp6 zl7 zl8 zn9 x840 l850 c860 n870 s := by
  refine ⟨fun vs s => ∃ x84 l85 c86 n87, vs = [(.slice x84 l85 c86), (.int .i64 n87)] ∧ I x84 l85 c86 n87 s, fun vs s => (match vs with | [.slice x84 l85 c86, .int _ n87] => μ x84 l85 c86 n87 s | _ => 0), ⟨⟨⟨_, _, _, rfl⟩, ⟨⟨_, rfl⟩, trivial⟩⟩, ⟨_, _, _, _, rfl, h0⟩⟩, ?_⟩
  intro x84 l85 c86 n87 s hI j
  obtain ⟨x84', l85', c86', n87', hy, hI⟩ := hI
  have hI' : I x84 l85 c86 n87 s := by cases hy; exact hI
  have hh := hr x84 l85 c86 n87 s hI'
  rw [← B_book_said_1_eq W R nx0 zt0 zp1 zl2 zl3 zn4 zn5 zp6 zl7 zl8 zn9 x84 l85 c86 n87 _ j] at hh
  refine vc_mono ?_ _ _ hh
  exact KLoop_mono (fun vs s' h => by obtain ⟨x841, l851, c861, n871, rfl, h1, h2⟩ := h; exact ⟨⟨⟨_, _, _, rfl⟩, ⟨⟨_, rfl⟩, trivial⟩⟩, ⟨_, _, _, _, rfl, h1⟩, h2⟩)
def T_book_said (W : World) (x1 : Option Addr) (l2 : Nat) (c3 : Nat) (R : Ending → Hp → Prop) : Hp → Prop :=
 L_book_said_0 W R ⟨#[]⟩ x1 l2 c3 (↑l2 : Int) none 0 0 0
theorem does_book_said (W : World) (x1 : Option Addr) (l2 : Nat) (c3 : Nat) (R : Ending → Hp → Prop) (s : Hp) (h : T_book_said W x1 l2 c3 R s) : Does Pg W F_book_said #[(.slice x1 l2 c3)] s R :=
  does_of_vfun Pg W an_181 Tryz.func181 rfl (by kernel_rfl) (Eq.mpr (by kernel_rfl) h)
def an_182 : Nat → Ann := fun b => match b with
 | _ => {}
abbrev rv_182 : List ResultVar := [.tmp 2]
abbrev rs_182 : List Nat := [42, 2]
def J_book_isPegs_0 (W : World) (R : Ending → Hp → Prop) (b29 : Bool) (B8 : Nat) (B10 : Nat) : Hp → Prop :=
 BR b29
 (RDL (Addr.add ⟨B8, 0, none⟩ 2) fun x30 l31 c32 =>
 CALL Pg W F_slices_ContainsFunc_api_Length_api_Length [(.slice x30 l31 c32), (.func (.func 191) #[] #[(.pointer (some ⟨B10, 0, none⟩))])]
 (fun v33 => TYB v33 fun b35 =>
 R (.returned (.bool (!b35))))
 (fun e34 => R (.panicked e34)))
 (R (.returned (.bool false)))
def J_book_isPegs_1 (W : World) (R : Ending → Hp → Prop) (b22 : Bool) (B8 : Nat) (B9 : Nat) (B10 : Nat) : Hp → Prop :=
 BR b22
 (RDL (Addr.add ⟨B8, 0, none⟩ 1) fun x23 l24 c25 =>
 CALL Pg W F_slices_ContainsFunc_api_Post_api_Post [(.slice x23 l24 c25), (.func (.func 190) #[] #[(.pointer (some ⟨B9, 0, none⟩))])]
 (fun v26 => TYB v26 fun b28 =>
 J_book_isPegs_0 W R (!b28) B8 B10)
 (fun e27 => R (.panicked e27)))
 (J_book_isPegs_0 W R false B8 B10)
def J_book_isPegs_2 (W : World) (R : Ending → Hp → Prop) (b18 : Bool) (B8 : Nat) (B9 : Nat) (B10 : Nat) : Hp → Prop :=
 BR b18
 (RDL (Addr.add ⟨B8, 0, none⟩ 2) fun x19 l20 c21 =>
 J_book_isPegs_1 W R (decide ((↑l20 : Int) ≤ 6)) B8 B9 B10)
 (J_book_isPegs_1 W R false B8 B9 B10)
def T_book_isPegs (W : World) (n1 : Int) (x2 : Option Addr) (l3 : Nat) (c4 : Nat) (x5 : Option Addr) (l6 : Nat) (c7 : Nat) (R : Ending → Hp → Prop) : Hp → Prop :=
 NEW 25 [(.int .i64 n1), (.slice x2 l3 c4), (.slice x5 l6 c7)] fun B8 =>
 NEWZ Pg 167 fun B9 =>
 WR (Addr.add ⟨B9, 0, none⟩ 0) (.func (.func 187) #[] #[(.pointer (some ⟨B8, 0, none⟩))]) <|
 NEWZ Pg 211 fun B10 =>
 WR (Addr.add ⟨B10, 0, none⟩ 0) (.func (.func 188) #[] #[(.pointer (some ⟨B8, 0, none⟩))]) <|
 RDI .i64 (Addr.add ⟨B8, 0, none⟩ 0) fun n11 =>
 CALL Pg W F_book_within [(.int .i64 n11), (.int .i64 0), (.int .i64 15)]
 (fun v12 => TYB v12 fun b14 =>
 BR b14
 (RDL (Addr.add ⟨B8, 0, none⟩ 1) fun x15 l16 c17 =>
 J_book_isPegs_2 W R (decide ((↑l16 : Int) ≤ 4)) B8 B9 B10)
 (J_book_isPegs_2 W R false B8 B9 B10))
 (fun e13 => R (.panicked e13))
theorem does_book_isPegs (W : World) (n1 : Int) (x2 : Option Addr) (l3 : Nat) (c4 : Nat) (x5 : Option Addr) (l6 : Nat) (c7 : Nat) (R : Ending → Hp → Prop) (s : Hp) (h : T_book_isPegs W n1 x2 l3 c4 x5 l6 c7 R s) : Does Pg W F_book_isPegs #[(.agg #[(.int .i64 n1), (.slice x2 l3 c4), (.slice x5 l6 c7)])] s R :=
  does_of_vfun Pg W an_182 Tryz.func182 rfl (by kernel_rfl) (Eq.mpr (by kernel_rfl) h)
def an_183 : Nat → Ann := fun b => match b with
 | _ => {}
abbrev rv_183 : List ResultVar := [.tmp 2]
abbrev rs_183 : List Nat := [14, 2]
def T_book_figure (W : World) (t1 : ByteArray) (R : Ending → Hp → Prop) : Hp → Prop :=
 CALL Pg W F_strconv_Atoi [(.string t1)]
 (fun v2 => TUP v2 fun q4 => HD q4 fun v5 r6 => TYI .i64 v5 fun n7 =>
 HD r6 fun v8 r9 => NL r9 <|
 NILE v8 fun b10 =>
 CALL Pg W F_book_need [(.bool b10), (.int .i64 8)]
 (fun v11 => TUP v11 fun q13 => NL q13 <|
 R (.returned (.int .i64 n7)))
 (fun e12 => R (.panicked e12)))
 (fun e3 => R (.panicked e3))
theorem does_book_figure (W : World) (t1 : ByteArray) (R : Ending → Hp → Prop) (s : Hp) (h : T_book_figure W t1 R s) : Does Pg W F_book_figure #[(.string t1)] s R :=
  does_of_vfun Pg W an_183 Tryz.func183 rfl (by kernel_rfl) (Eq.mpr (by kernel_rfl) h)
def an_185 : Nat → Ann := fun b => match b with
 | _ => {}
abbrev rv_185 : List ResultVar := [.tmp 2]
abbrev rs_185 : List Nat := [15, 2]
def J_book_worded_0 (W : World) (R : Ending → Hp → Prop) (B4 : Nat) (t6 : ByteArray) : Hp → Prop :=
 RDB (Addr.add ⟨B4, 0, none⟩ 2) fun b7 =>
 BR b7
 (STC ⟨#[45]⟩ t6 fun t8 =>
 RDI .i64 (Addr.add ⟨B4, 0, none⟩ 1) fun n9 =>
 CALL Pg W F_strconv_Itoa [(.int .i64 n9)]
 (fun v10 => TYS v10 fun t12 =>
 STC t8 t12 fun t13 =>
 R (.returned (.string t13)))
 (fun e11 => R (.panicked e11)))
 (RDI .i64 (Addr.add ⟨B4, 0, none⟩ 1) fun n14 =>
 CALL Pg W F_strconv_Itoa [(.int .i64 n14)]
 (fun v15 => TYS v15 fun t17 =>
 STC t6 t17 fun t18 =>
 R (.returned (.string t18)))
 (fun e16 => R (.panicked e16)))
def T_book_worded (W : World) (b1 : Bool) (n2 : Int) (b3 : Bool) (R : Ending → Hp → Prop) : Hp → Prop :=
 NEW 79 [(.bool b1), (.int .i64 n2), (.bool b3)] fun B4 =>
 RDB (Addr.add ⟨B4, 0, none⟩ 0) fun b5 =>
 BR b5
 (J_book_worded_0 W R B4 ⟨#[119]⟩)
 (J_book_worded_0 W R B4 ⟨#[102]⟩)
theorem does_book_worded (W : World) (b1 : Bool) (n2 : Int) (b3 : Bool) (R : Ending → Hp → Prop) (s : Hp) (h : T_book_worded W b1 n2 b3 R s) : Does Pg W F_book_worded #[(.agg #[(.bool b1), (.int .i64 n2), (.bool b3)])] s R :=
  does_of_vfun Pg W an_185 Tryz.func185 rfl (by kernel_rfl) (Eq.mpr (by kernel_rfl) h)
def an_187 : Nat → Ann := fun b => match b with
 | _ => {}
abbrev rv_187 : List ResultVar := [.tmp 3]
abbrev rs_187 : List Nat := [16, 3]
def T_book_isPegs_c1 (W : World) (n1 : Int) (n2 : Int) (a3 : Addr) (R : Ending → Hp → Prop) : Hp → Prop :=
 NEW 74 [(.int .i64 n1), (.int .i64 n2)] fun B4 =>
 RDI .i64 (Addr.add ⟨B4, 0, none⟩ 0) fun n5 =>
 RDI .i64 (Addr.add ⟨B4, 0, none⟩ 1) fun n6 =>
 RDI .i64 (Addr.add a3 0) fun n7 =>
 CALL Pg W F_book_isSpan [(.agg #[(.int .i64 n5), (.int .i64 n6)]), (.int .i64 0), (.int .i64 n7)]
 (fun v8 => TYB v8 fun b10 =>
 BR b10
 (RDI .i64 (Addr.add ⟨B4, 0, none⟩ 1) fun n11 =>
 RDI .i64 (Addr.add ⟨B4, 0, none⟩ 0) fun n12 =>
 R (.returned (.bool (decide ((IntKind.wrap .i64 (n11 - n12)) ≤ 2)))))
 (R (.returned (.bool false))))
 (fun e9 => R (.panicked e9))
theorem does_book_isPegs_c1 (W : World) (n1 : Int) (n2 : Int) (a3 : Addr) (R : Ending → Hp → Prop) (s : Hp) (h : T_book_isPegs_c1 W n1 n2 a3 R s) : Does Pg W F_book_isPegs_c1 #[(.agg #[(.int .i64 n1), (.int .i64 n2)]), (.pointer (some a3))] s R :=
  does_of_vfun Pg W an_187 Tryz.func187 rfl (by kernel_rfl) (Eq.mpr (by kernel_rfl) h)
def an_188 : Nat → Ann := fun b => match b with
 | _ => {}
abbrev rv_188 : List ResultVar := [.tmp 3]
abbrev rs_188 : List Nat := [10, 3]
def T_book_isPegs_c2 (W : World) (n1 : Int) (a2 : Addr) (R : Ending → Hp → Prop) : Hp → Prop :=
 RDL (Addr.add a2 1) fun x3 l4 c5 =>
 CALL Pg W F_book_within [(.int .i64 n1), (.int .i64 0), (.int .i64 (IntKind.wrap .i64 ((↑l4 : Int) - 1)))]
 (fun v6 => TYB v6 fun b8 =>
 R (.returned (.bool b8)))
 (fun e7 => R (.panicked e7))
theorem does_book_isPegs_c2 (W : World) (n1 : Int) (a2 : Addr) (R : Ending → Hp → Prop) (s : Hp) (h : T_book_isPegs_c2 W n1 a2 R s) : Does Pg W F_book_isPegs_c2 #[(.int .i64 n1), (.pointer (some a2))] s R :=
  does_of_vfun Pg W an_188 Tryz.func188 rfl (by kernel_rfl) (Eq.mpr (by kernel_rfl) h)
def an_189 : Nat → Ann := fun b => match b with
 | _ => {}
abbrev rv_189 : List ResultVar := [.tmp 6]
abbrev rs_189 : List Nat := [15, 6]
def T_book_within (W : World) (n1 : Int) (n2 : Int) (n3 : Int) (R : Ending → Hp → Prop) : Hp → Prop :=
 BR (decide (n2 ≤ n1))
 (R (.returned (.bool (decide (n1 ≤ n3)))))
 (R (.returned (.bool false)))
theorem does_book_within (W : World) (n1 : Int) (n2 : Int) (n3 : Int) (R : Ending → Hp → Prop) (s : Hp) (h : T_book_within W n1 n2 n3 R s) : Does Pg W F_book_within #[(.int .i64 n1), (.int .i64 n2), (.int .i64 n3)] s R :=
  does_of_vfun Pg W an_189 Tryz.func189 rfl (by kernel_rfl) (Eq.mpr (by kernel_rfl) h)
def an_190 : Nat → Ann := fun b => match b with
 | _ => {}
abbrev rv_190 : List ResultVar := [.tmp 3]
abbrev rs_190 : List Nat := [16, 3]
def T_book_isPegs_c3 (W : World) (n1 : Int) (n2 : Int) (n3 : Int) (n4 : Int) (a5 : Addr) (R : Ending → Hp → Prop) : Hp → Prop :=
 NEW 77 [(.int .i64 n1), (.int .i64 n2), (.int .i64 n3), (.int .i64 n4)] fun B6 =>
 RDV a5 fun v7 =>
 RDI .i64 (Addr.add (Addr.add ⟨B6, 0, none⟩ 0) 0) fun n8 =>
 RDI .i64 (Addr.add (Addr.add ⟨B6, 0, none⟩ 0) 1) fun n9 =>
 CALLV Pg W v7 [(.agg #[(.int .i64 n8), (.int .i64 n9)])]
 (fun v10 => TYB v10 fun b12 =>
 BR (!b12)
 (R (.returned (.bool true)))
 (RDV a5 fun v13 =>
 RDI .i64 (Addr.add (Addr.add ⟨B6, 0, none⟩ 2) 0) fun n14 =>
 RDI .i64 (Addr.add (Addr.add ⟨B6, 0, none⟩ 2) 1) fun n15 =>
 CALLV Pg W v13 [(.agg #[(.int .i64 n14), (.int .i64 n15)])]
 (fun v16 => TYB v16 fun b18 =>
 R (.returned (.bool (!b18))))
 (fun e17 => R (.panicked e17))))
 (fun e11 => R (.panicked e11))
theorem does_book_isPegs_c3 (W : World) (n1 : Int) (n2 : Int) (n3 : Int) (n4 : Int) (a5 : Addr) (R : Ending → Hp → Prop) (s : Hp) (h : T_book_isPegs_c3 W n1 n2 n3 n4 a5 R s) : Does Pg W F_book_isPegs_c3 #[(.agg #[(.int .i64 n1), (.int .i64 n2), (.int .i64 n3), (.int .i64 n4)]), (.pointer (some a5))] s R :=
  does_of_vfun Pg W an_190 Tryz.func190 rfl (by kernel_rfl) (Eq.mpr (by kernel_rfl) h)
def an_191 : Nat → Ann := fun b => match b with
 | _ => {}
abbrev rv_191 : List ResultVar := [.tmp 3]
abbrev rs_191 : List Nat := [29, 3]
def J_book_isPegs_c4_0 (W : World) (R : Ending → Hp → Prop) (b13 : Bool) (B6 : Nat) : Hp → Prop :=
 BR b13
 (R (.returned (.bool true)))
 (RDI .i64 (Addr.add (Addr.add ⟨B6, 0, none⟩ 2) 0) fun n14 =>
 RDI .i64 (Addr.add (Addr.add ⟨B6, 0, none⟩ 2) 1) fun n15 =>
 CALL Pg W F_book_isSpan [(.agg #[(.int .i64 n14), (.int .i64 n15)]), (.int .i64 0), (.int .i64 30)]
 (fun v16 => TYB v16 fun b18 =>
 R (.returned (.bool (!b18))))
 (fun e17 => R (.panicked e17)))
def J_book_isPegs_c4_1 (W : World) (R : Ending → Hp → Prop) (b12 : Bool) (B6 : Nat) : Hp → Prop :=
 BR b12
 (J_book_isPegs_c4_0 W R true B6)
 (RDI .i64 (Addr.add ⟨B6, 0, none⟩ 0) fun n19 =>
 RDI .i64 (Addr.add ⟨B6, 0, none⟩ 1) fun n20 =>
 J_book_isPegs_c4_0 W R (n19 == n20) B6)
def T_book_isPegs_c4 (W : World) (n1 : Int) (n2 : Int) (n3 : Int) (n4 : Int) (a5 : Addr) (R : Ending → Hp → Prop) : Hp → Prop :=
 NEW 83 [(.int .i64 n1), (.int .i64 n2), (.int .i64 n3), (.int .i64 n4)] fun B6 =>
 RDV a5 fun v7 =>
 RDI .i64 (Addr.add ⟨B6, 0, none⟩ 0) fun n8 =>
 CALLV Pg W v7 [(.int .i64 n8)]
 (fun v9 => TYB v9 fun b11 =>
 BR (!b11)
 (J_book_isPegs_c4_1 W R true B6)
 (RDV a5 fun v21 =>
 RDI .i64 (Addr.add ⟨B6, 0, none⟩ 1) fun n22 =>
 CALLV Pg W v21 [(.int .i64 n22)]
 (fun v23 => TYB v23 fun b25 =>
 J_book_isPegs_c4_1 W R (!b25) B6)
 (fun e24 => R (.panicked e24))))
 (fun e10 => R (.panicked e10))
theorem does_book_isPegs_c4 (W : World) (n1 : Int) (n2 : Int) (n3 : Int) (n4 : Int) (a5 : Addr) (R : Ending → Hp → Prop) (s : Hp) (h : T_book_isPegs_c4 W n1 n2 n3 n4 a5 R s) : Does Pg W F_book_isPegs_c4 #[(.agg #[(.int .i64 n1), (.int .i64 n2), (.int .i64 n3), (.int .i64 n4)]), (.pointer (some a5))] s R :=
  does_of_vfun Pg W an_191 Tryz.func191 rfl (by kernel_rfl) (Eq.mpr (by kernel_rfl) h)
def an_217 : Nat → Ann := fun b => match b with
 | _ => {}
abbrev rv_217 : List ResultVar := [.tmp 2]
abbrev rs_217 : List Nat := [8, 2]
def T_book_panels_begins (W : World) (p1 : Option Addr) (R : Ending → Hp → Prop) : Hp → Prop :=
 NEW 157 [(.pointer p1)] fun B2 =>
 MKM fun B3 =>
 MUP Pg 177 (.map (some B3)) (.string ⟨#[106, 117, 100, 103, 101, 115]⟩) (.func (.func 220) #[] #[(.pointer (some ⟨B2, 0, none⟩))]) <|
 MUP Pg 177 (.map (some B3)) (.string ⟨#[112, 108, 111, 116, 115]⟩) (.func (.func 222) #[] #[(.pointer (some ⟨B2, 0, none⟩))]) <|
 MUP Pg 177 (.map (some B3)) (.string ⟨#[107, 105, 110]⟩) (.func (.func 223) #[] #[(.pointer (some ⟨B2, 0, none⟩))]) <|
 R (.returned (.map (some B3)))
theorem does_book_panels_begins (W : World) (p1 : Option Addr) (R : Ending → Hp → Prop) (s : Hp) (h : T_book_panels_begins W p1 R s) : Does Pg W F_book_panels_begins #[(.pointer p1)] s R :=
  does_of_vfun Pg W an_217 Tryz.func217 rfl (by kernel_rfl) (Eq.mpr (by kernel_rfl) h)
def an_218 : Nat → Ann := fun b => match b with
 | _ => {}
abbrev rv_218 : List ResultVar := []
abbrev rs_218 : List Nat := [10]
def T_book_panels_other (W : World) (p1 : Option Addr) (t2 : ByteArray) (p3 : Option Addr) (R : Ending → Hp → Prop) : Hp → Prop :=
 CALL Pg W F_book_strange_other [(.agg #[]), (.string t2), (.pointer p3)]
 (fun v4 => TUP v4 fun q6 => NL q6 <|
 R (.returned (.tuple #[])))
 (fun e5 => R (.panicked e5))
theorem does_book_panels_other (W : World) (p1 : Option Addr) (t2 : ByteArray) (p3 : Option Addr) (R : Ending → Hp → Prop) (s : Hp) (h : T_book_panels_other W p1 t2 p3 R s) : Does Pg W F_book_panels_other #[(.pointer p1), (.string t2), (.pointer p3)] s R :=
  does_of_vfun Pg W an_218 Tryz.func218 rfl (by kernel_rfl) (Eq.mpr (by kernel_rfl) h)
def an_219 : Nat → Ann := fun b => match b with
 | 0 => { ms := [4, 32], ks := [.s, .i .i64], us := [0, 2, 3, 30, 31, 54], rt := false, ex := [] }
 | _ => {}
abbrev rv_219 : List ResultVar := [.tmp 2, .tmp 3]
abbrev rs_219 : List Nat := [54, 2, 3]
def L_book_panels_text_0 (W : World) (R : Ending → Hp → Prop) (zp0 : Option Addr) (zt1 : ByteArray) (zp2 : Option Addr) (zl3 : Nat) (zl4 : Nat) (zn5 : Int) (t65 : ByteArray) (n66 : Int) : Hp → Prop :=
 LOOPN [.s, .i .i64] (fun ys next s => ∀ j : Tm, vc Pg W 54 rs_219 an_219 false (sub (bodyOf Tryz.f219) [1, 1, 0, 1, 0, 0]) 0 (KLoop [4, 32] [0, 2, 3, 30, 31, 54] [(.pointer zp0), (.string zt1), (.bool false), (.slice zp2 zl3 zl4), (.int .i64 zn5), (.tuple #[])] next (KBlk 0 (KS Pg W 54 rs_219 an_219 false (sub (bodyOf Tryz.f219) [1, 1, 1]) 0 (fin Pg W 54 rv_219 R)))) (known [4, 32] ys (known [0, 2, 3, 30, 31, 54] [(.pointer zp0), (.string zt1), (.bool false), (.slice zp2 zl3 zl4), (.int .i64 zn5), (.tuple #[])] j)) s) [(.string t65), (.int .i64 n66)]
def J_book_panels_text_0 (W : World) (R : Ending → Hp → Prop) (p1 : Option Addr) (t28 : ByteArray) : Hp → Prop :=
 SO p1 fun a29 =>
 RDL (Addr.add (Addr.add a29 0) 2) fun x30 l31 c32 =>
 L_book_panels_text_0 W R p1 ⟨#[]⟩ x30 l31 c32 (↑l31 : Int) t28 0
def B_book_panels_text_0 (W : World) (R : Ending → Hp → Prop) (zp0 : Option Addr) (zt1 : ByteArray) (zp2 : Option Addr) (zl3 : Nat) (zl4 : Nat) (zn5 : Int) (t65 : ByteArray) (n66 : Int) (nx0 : List Value → Hp → Prop) : Hp → Prop :=
 BR (decide (n66 < zn5))
 (IXS zp2 zl3 n66 2 fun a67 =>
 RDI .i64 (Addr.add a67 0) fun n68 =>
 RDI .i64 (Addr.add a67 1) fun n69 =>
 NEWZ Pg 85 fun B70 =>
 WR (Addr.add ⟨B70, 0, none⟩ 0) (.int .i64 n68) <|
 WR (Addr.add ⟨B70, 0, none⟩ 1) (.int .i64 n69) <|
 RDI .i64 (Addr.add ⟨B70, 0, none⟩ 0) fun n71 =>
 RDI .i64 (Addr.add ⟨B70, 0, none⟩ 1) fun n72 =>
 NEW 20 [(.iface 9 (.string ⟨#[107, 105, 110]⟩)), (.iface 3 (.int .i64 n71)), (.iface 3 (.int .i64 n72))] fun B73 =>
 CALL Pg W F_book_said [(.slice (some ⟨B73, 0, none⟩) 3 3)]
 (fun v74 => TYS v74 fun t76 =>
 STC t65 t76 fun t77 =>
 NX [(.pointer zp0), (.string zt1), (.bool false), (.slice zp2 zl3 zl4), (.int .i64 zn5), (.tuple #[])] [(.pointer zp0), (.string zt1), (.bool false), (.slice zp2 zl3 zl4), (.int .i64 zn5), (.tuple #[])] (nx0 [(.string t77), (.int .i64 (IntKind.wrap .i64 (n66 + 1)))]))
 (fun e75 => R (.panicked e75)))
 (SO zp0 fun a78 =>
 RDL (Addr.add (Addr.add a78 0) 0) fun x79 l80 c81 =>
 RDL (Addr.add (Addr.add a78 0) 1) fun x82 l83 c84 =>
 RDL (Addr.add (Addr.add a78 0) 2) fun x85 l86 c87 =>
 CALL Pg W F_book_isPanels [(.agg #[(.slice x79 l80 c81), (.slice x82 l83 c84), (.slice x85 l86 c87)])]
 (fun v88 => TYB v88 fun b90 =>
 R (.returned (.tuple #[(.string t65), (.bool b90)])))
 (fun e89 => R (.panicked e89)))
theorem B_book_panels_text_0_eq (W : World) (R : Ending → Hp → Prop) (zp0 : Option Addr) (zt1 : ByteArray) (zp2 : Option Addr) (zl3 : Nat) (zl4 : Nat) (zn5 : Int) (t65 : ByteArray) (n66 : Int) (nx0 : List Value → Hp → Prop) (j : Tm) : vc Pg W 54 rs_219 an_219 false (sub (bodyOf Tryz.f219) [1, 1, 0, 1, 0, 0]) 0 (KLoop [4, 32] [0, 2, 3, 30, 31, 54] [(.pointer zp0), (.string zt1), (.bool false), (.slice zp2 zl3 zl4), (.int .i64 zn5), (.tuple #[])] nx0 (KBlk 0 (KS Pg W 54 rs_219 an_219 false (sub (bodyOf Tryz.f219) [1, 1, 1]) 0 (fin Pg W 54 rv_219 R)))) (known [4, 32] [(.string t65), (.int .i64 n66)] (known [0, 2, 3, 30, 31, 54] [(.pointer zp0), (.string zt1), (.bool false), (.slice zp2 zl3 zl4), (.int .i64 zn5), (.tuple #[])] j)) = B_book_panels_text_0 W R zp0 zt1 zp2 zl3 zl4 zn5 t65 n66 nx0 := by kernel_rfl
def N_book_panels_text_0 (I : ByteArray → Int → Hp → Prop) (μ : ByteArray → Int → Hp → Nat) (t650 : ByteArray) (n660 : Int) (s : Hp) (vs : List Value) : Hp → Prop := fun s' => ∃ t65 n66, vs = [(.string t65), (.int .i64 n66)] ∧ I t65 n66 s' ∧ μ t65 n66 s' < μ t650 n660 s
theorem L_book_panels_text_0_rule (W : World) (R : Ending → Hp → Prop) (zp0 : Option Addr) (zt1 : ByteArray) (zp2 : Option Addr) (zl3 : Nat) (zl4 : Nat) (zn5 : Int) (I : ByteArray → Int → Hp → Prop) (μ : ByteArray → Int → Hp → Nat) (t650 : ByteArray) (n660 : Int) (s : Hp) (h0 : I t650 n660 s)
    (hr : ∀ (t65 : ByteArray) (n66 : Int) (s : Hp), I t65 n66 s → B_book_panels_text_0 W R zp0 zt1 zp2 zl3 zl4 zn5 t65 n66 (fun vs => N_book_panels_text_0 I μ t65 n66 s vs) s) : L_book_panels_text_0 W R zp0 zt1 zp2 zl3 zl4 zn5 t650 n660 s := by
  refine ⟨fun vs s => ∃ t65 n66, vs = [(.string t65), (.int .i64 n66)] ∧ I t65 n66 s, fun vs s => (match vs with | [.string t65, .int _ n66] => μ t65 n66 s | _ => 0), ⟨⟨⟨_, rfl⟩, ⟨⟨_, rfl⟩, trivial⟩⟩, ⟨_, _, rfl, h0⟩⟩, ?_⟩
  intro t65 n66 s hI j
  obtain ⟨t65', n66', hy, hI⟩ := hI
  have hI' : I t65 n66 s := by cases hy; exact hI
  have hh := hr t65 n66 s hI'
  rw [← B_book_panels_text_0_eq W R zp0 zt1 zp2 zl3 zl4 zn5 t65 n66 _ j] at hh
  refine vc_mono ?_ _ _ hh
  exact KLoop_mono (fun vs s' h => by obtain ⟨t651, n661, rfl, h1, h2⟩ := h; exact ⟨⟨⟨_, rfl⟩, ⟨⟨_, rfl⟩, trivial⟩⟩, ⟨_, _, rfl, h1⟩, h2⟩)
def T_book_panels_text (W : World) (p1 : Option Addr) (R : Ending → Hp → Prop) : Hp → Prop :=
 SO p1 fun a2 =>
 RDL (Addr.add (Addr.add a2 0) 0) fun x3 l4 c5 =>
 SO p1 fun a6 =>
 RDL (Addr.add (Addr.add a6 0) 1) fun x7 l8 c9 =>
 CONJ [
 NEW 20 [(.iface 9 (.string ⟨#[106, 117, 100, 103, 101, 115]⟩)), (.iface 26 (.slice x3 l4 c5))] fun B10 =>
 ANDS (RDL (Addr.add (Addr.add a6 0) 1) fun x11 l12 c13 =>
 fun _ => ((.slice x11 l12 c13) : Value) = (.slice x7 l8 c9)) <|
 CONJ [
 CALL Pg W F_book_said [(.slice (some ⟨B10, 0, none⟩) 2 2)]
 (fun v14 => TYS v14 fun t16 =>
 ANDS (RDL (Addr.add (Addr.add a6 0) 1) fun x17 l18 c19 =>
 fun _ => ((.slice x17 l18 c19) : Value) = (.slice x7 l8 c9)) <|
 NEW 20 [(.iface 9 (.string ⟨#[112, 108, 111, 116, 115]⟩)), (.iface 26 (.slice x7 l8 c9))] fun B20 =>
 ANDS (RDL (Addr.add (Addr.add a2 0) 0) fun x21 l22 c23 =>
 fun _ => ((.slice x21 l22 c23) : Value) = (.slice x3 l4 c5)) <|
 CALL Pg W F_book_said [(.slice (some ⟨B20, 0, none⟩) 2 2)]
 (fun v24 => TYS v24 fun t26 =>
 STC t16 t26 fun t27 =>
 J_book_panels_text_0 W R p1 t27)
 (fun e25 => R (.panicked e25)))
 (fun e15 => R (.panicked e15)),
 NEW 20 [(.iface 9 (.string ⟨#[112, 108, 111, 116, 115]⟩)), (.iface 26 (.slice x7 l8 c9))] fun B33 =>
 ANDS (RDL (Addr.add (Addr.add a2 0) 0) fun x34 l35 c36 =>
 fun _ => ((.slice x34 l35 c36) : Value) = (.slice x3 l4 c5)) <|
 CALL Pg W F_book_said [(.slice (some ⟨B10, 0, none⟩) 2 2)]
 (fun v37 => TYS v37 fun t39 =>
 ANDS (RDL (Addr.add (Addr.add a6 0) 1) fun x40 l41 c42 =>
 fun _ => ((.slice x40 l41 c42) : Value) = (.slice x7 l8 c9)) <|
 CALL Pg W F_book_said [(.slice (some ⟨B33, 0, none⟩) 2 2)]
 (fun v43 => TYS v43 fun t45 =>
 STC t39 t45 fun t46 =>
 J_book_panels_text_0 W R p1 t46)
 (fun e44 => R (.panicked e44)))
 (fun e38 => R (.panicked e38))],
 NEW 20 [(.iface 9 (.string ⟨#[112, 108, 111, 116, 115]⟩)), (.iface 26 (.slice x7 l8 c9))] fun B47 =>
 ANDS (RDL (Addr.add (Addr.add a2 0) 0) fun x48 l49 c50 =>
 fun _ => ((.slice x48 l49 c50) : Value) = (.slice x3 l4 c5)) <|
 NEW 20 [(.iface 9 (.string ⟨#[106, 117, 100, 103, 101, 115]⟩)), (.iface 26 (.slice x3 l4 c5))] fun B51 =>
 ANDS (RDL (Addr.add (Addr.add a6 0) 1) fun x52 l53 c54 =>
 fun _ => ((.slice x52 l53 c54) : Value) = (.slice x7 l8 c9)) <|
 CALL Pg W F_book_said [(.slice (some ⟨B51, 0, none⟩) 2 2)]
 (fun v55 => TYS v55 fun t57 =>
 ANDS (RDL (Addr.add (Addr.add a6 0) 1) fun x58 l59 c60 =>
 fun _ => ((.slice x58 l59 c60) : Value) = (.slice x7 l8 c9)) <|
 CALL Pg W F_book_said [(.slice (some ⟨B47, 0, none⟩) 2 2)]
 (fun v61 => TYS v61 fun t63 =>
 STC t57 t63 fun t64 =>
 J_book_panels_text_0 W R p1 t64)
 (fun e62 => R (.panicked e62)))
 (fun e56 => R (.panicked e56))]
theorem does_book_panels_text (W : World) (p1 : Option Addr) (R : Ending → Hp → Prop) (s : Hp) (h : T_book_panels_text W p1 R s) : Does Pg W F_book_panels_text #[(.pointer p1)] s R :=
  does_of_vfun Pg W an_219 Tryz.func219 rfl (by kernel_rfl) (Eq.mpr (by kernel_rfl) h)
def an_220 : Nat → Ann := fun b => match b with
 | _ => {}
abbrev rv_220 : List ResultVar := []
abbrev rs_220 : List Nat := [9]
def T_book_panels_begins_c1 (W : World) (p1 : Option Addr) (a2 : Addr) (R : Ending → Hp → Prop) : Hp → Prop :=
 RDP a2 fun p3 =>
 CALL Pg W F_book_row_numbers [(.pointer p1)]
 (fun v4 => TYL v4 fun x6 l7 c8 =>
 ANDS (RDP a2 fun p9 =>
 fun _ => ((.pointer p9) : Value) = (.pointer p3)) <|
 SO p3 fun a10 =>
 WR (Addr.add (Addr.add (Addr.add a10 0) 0) 0) (.slice x6 l7 c8) <|
 R (.returned (.tuple #[])))
 (fun e5 => R (.panicked e5))
theorem does_book_panels_begins_c1 (W : World) (p1 : Option Addr) (a2 : Addr) (R : Ending → Hp → Prop) (s : Hp) (h : T_book_panels_begins_c1 W p1 a2 R s) : Does Pg W F_book_panels_begins_c1 #[(.pointer p1), (.pointer (some a2))] s R :=
  does_of_vfun Pg W an_220 Tryz.func220 rfl (by kernel_rfl) (Eq.mpr (by kernel_rfl) h)
def an_221 : Nat → Ann := fun b => match b with
 | 0 => { ms := [2], ks := [.l], us := [0, 15], rt := false, ex := [] }
 | _ => {}
abbrev rv_221 : List ResultVar := [.tmp 2]
abbrev rs_221 : List Nat := [15, 2]
def L_book_row_numbers_0 (W : World) (R : Ending → Hp → Prop) (zp0 : Option Addr) (x2 : Option Addr) (l3 : Nat) (c4 : Nat) : Hp → Prop :=
 LOOPN [.l] (fun ys next s => ∀ j : Tm, vc Pg W 15 rs_221 an_221 false (sub (bodyOf Tryz.f221) [1, 0, 1, 0, 0, 0]) 0 (KLoop [2] [0, 15] [(.pointer zp0), (.tuple #[])] next (KBlk 0 (KS Pg W 15 rs_221 an_221 false (sub (bodyOf Tryz.f221) [1, 0, 1, 1]) 0 (fin Pg W 15 rv_221 R)))) (known [2] ys (known [0, 15] [(.pointer zp0), (.tuple #[])] j)) s) [(.slice x2 l3 c4)]
def B_book_row_numbers_0 (W : World) (R : Ending → Hp → Prop) (zp0 : Option Addr) (x2 : Option Addr) (l3 : Nat) (c4 : Nat) (nx0 : List Value → Hp → Prop) : Hp → Prop :=
 SO zp0 fun a5 =>
 RDL (Addr.add a5 0) fun x6 l7 c8 =>
 BR ((↑l7 : Int) == 0)
 (R (.returned (.slice x2 l3 c4)))
 (CALL Pg W F_book_row_number [(.pointer zp0)]
 (fun v9 => TYI .i64 v9 fun n11 =>
 NEW 3 [(.int .i64 n11)] fun B12 =>
 APP Pg 3 1 x2 l3 c4 (some ⟨B12, 0, none⟩) 1 fun x13 l14 c15 =>
 NX [(.pointer zp0), (.tuple #[])] [(.pointer zp0), (.tuple #[])] (nx0 [(.slice x13 l14 c15)]))
 (fun e10 => R (.panicked e10)))
theorem B_book_row_numbers_0_eq (W : World) (R : Ending → Hp → Prop) (zp0 : Option Addr) (x2 : Option Addr) (l3 : Nat) (c4 : Nat) (nx0 : List Value → Hp → Prop) (j : Tm) : vc Pg W 15 rs_221 an_221 false (sub (bodyOf Tryz.f221) [1, 0, 1, 0, 0, 0]) 0 (KLoop [2] [0, 15] [(.pointer zp0), (.tuple #[])] nx0 (KBlk 0 (KS Pg W 15 rs_221 an_221 false (sub (bodyOf Tryz.f221) [1, 0, 1, 1]) 0 (fin Pg W 15 rv_221 R)))) (known [2] [(.slice x2 l3 c4)] (known [0, 15] [(.pointer zp0), (.tuple #[])] j)) = B_book_row_numbers_0 W R zp0 x2 l3 c4 nx0 := by kernel_rfl
def N_book_row_numbers_0 (I : Option Addr → Nat → Nat → Hp → Prop) (μ : Option Addr → Nat → Nat → Hp → Nat) (x20 : Option Addr) (l30 : Nat) (c40 : Nat) (s : Hp) (vs : List Value) : Hp → Prop := fun s' => ∃ x2 l3 c4, vs = [(.slice x2 l3 c4)] ∧ I x2 l3 c4 s' ∧ μ x2 l3 c4 s' < μ x20 l30 c40 s
theorem L_book_row_numbers_0_rule (W : World) (R : Ending → Hp → Prop) (zp0 : Option Addr) (I : Option Addr → Nat → Nat → Hp → Prop) (μ : Option Addr → Nat → Nat → Hp → Nat) (x20 : Option Addr) (l30 : Nat) (c40 : Nat) (s : Hp) (h0 : I x20 l30 c40 s)
    (hr : ∀ (x2 : Option Addr) (l3 : Nat) (c4 : Nat) (s : Hp), I x2 l3 c4 s → B_book_row_numbers_0 W R zp0 x2 l3 c4 (fun vs => N_book_row_numbers_0 I μ x2 l3 c4 s vs) s) : L_book_row_numbers_0 W R zp0 x20 l30 c40 s := by
  refine ⟨fun vs s => ∃ x2 l3 c4, vs = [(.slice x2 l3 c4)] ∧ I x2 l3 c4 s, fun vs s => (match vs with | [.slice x2 l3 c4] => μ x2 l3 c4 s | _ => 0), ⟨⟨⟨_, _, _, rfl⟩, trivial⟩, ⟨_, _, _, rfl, h0⟩⟩, ?_⟩
  intro x2 l3 c4 s hI j
  obtain ⟨x2', l3', c4', hy, hI⟩ := hI
  have hI' : I x2 l3 c4 s := by cases hy; exact hI
  have hh := hr x2 l3 c4 s hI'
  rw [← B_book_row_numbers_0_eq W R zp0 x2 l3 c4 _ j] at hh
  refine vc_mono ?_ _ _ hh
  exact KLoop_mono (fun vs s' h => by obtain ⟨x21, l31, c41, rfl, h1, h2⟩ := h; exact ⟨⟨⟨_, _, _, rfl⟩, trivial⟩, ⟨_, _, _, rfl, h1⟩, h2⟩)
def T_book_row_numbers (W : World) (p1 : Option Addr) (R : Ending → Hp → Prop) : Hp → Prop :=
 L_book_row_numbers_0 W R p1 none 0 0
theorem does_book_row_numbers (W : World) (p1 : Option Addr) (R : Ending → Hp → Prop) (s : Hp) (h : T_book_row_numbers W p1 R s) : Does Pg W F_book_row_numbers #[(.pointer p1)] s R :=
  does_of_vfun Pg W an_221 Tryz.func221 rfl (by kernel_rfl) (Eq.mpr (by kernel_rfl) h)
def an_222 : Nat → Ann := fun b => match b with
 | _ => {}
abbrev rv_222 : List ResultVar := []
abbrev rs_222 : List Nat := [9]
def T_book_panels_begins_c2 (W : World) (p1 : Option Addr) (a2 : Addr) (R : Ending → Hp → Prop) : Hp → Prop :=
 RDP a2 fun p3 =>
 CALL Pg W F_book_row_numbers [(.pointer p1)]
 (fun v4 => TYL v4 fun x6 l7 c8 =>
 ANDS (RDP a2 fun p9 =>
 fun _ => ((.pointer p9) : Value) = (.pointer p3)) <|
 SO p3 fun a10 =>
 WR (Addr.add (Addr.add (Addr.add a10 0) 1) 0) (.slice x6 l7 c8) <|
 R (.returned (.tuple #[])))
 (fun e5 => R (.panicked e5))
theorem does_book_panels_begins_c2 (W : World) (p1 : Option Addr) (a2 : Addr) (R : Ending → Hp → Prop) (s : Hp) (h : T_book_panels_begins_c2 W p1 a2 R s) : Does Pg W F_book_panels_begins_c2 #[(.pointer p1), (.pointer (some a2))] s R :=
  does_of_vfun Pg W an_222 Tryz.func222 rfl (by kernel_rfl) (Eq.mpr (by kernel_rfl) h)
def an_223 : Nat → Ann := fun b => match b with
 | _ => {}
abbrev rv_223 : List ResultVar := []
abbrev rs_223 : List Nat := [19]
def T_book_panels_begins_c3 (W : World) (p1 : Option Addr) (a2 : Addr) (R : Ending → Hp → Prop) : Hp → Prop :=
 RDP a2 fun p3 =>
 RDP a2 fun p4 =>
 SO p4 fun a5 =>
 RDL (Addr.add (Addr.add a5 0) 2) fun x6 l7 c8 =>
 CALL Pg W F_book_row_number [(.pointer p1)]
 (fun v9 => TYI .i64 v9 fun n11 =>
 ANDS (RDL (Addr.add (Addr.add a5 0) 2) fun x12 l13 c14 =>
 fun _ => ((.slice x12 l13 c14) : Value) = (.slice x6 l7 c8)) <|
 ANDS (RDP a2 fun p15 =>
 fun _ => ((.pointer p15) : Value) = (.pointer p4)) <|
 ANDS (RDP a2 fun p16 =>
 fun _ => ((.pointer p16) : Value) = (.pointer p3)) <|
 CALL Pg W F_book_row_number [(.pointer p1)]
 (fun v17 => TYI .i64 v17 fun n19 =>
 ANDS (RDL (Addr.add (Addr.add a5 0) 2) fun x20 l21 c22 =>
 fun _ => ((.slice x20 l21 c22) : Value) = (.slice x6 l7 c8)) <|
 ANDS (RDP a2 fun p23 =>
 fun _ => ((.pointer p23) : Value) = (.pointer p4)) <|
 ANDS (RDP a2 fun p24 =>
 fun _ => ((.pointer p24) : Value) = (.pointer p3)) <|
 NEW 85 [(.int .i64 n11), (.int .i64 n19)] fun B25 =>
 ANDS (RDL (Addr.add (Addr.add a5 0) 2) fun x26 l27 c28 =>
 fun _ => ((.slice x26 l27 c28) : Value) = (.slice x6 l7 c8)) <|
 ANDS (RDP a2 fun p29 =>
 fun _ => ((.pointer p29) : Value) = (.pointer p4)) <|
 ANDS (RDP a2 fun p30 =>
 fun _ => ((.pointer p30) : Value) = (.pointer p3)) <|
 APP Pg 85 2 x6 l7 c8 (some ⟨B25, 0, none⟩) 1 fun x31 l32 c33 =>
 ANDS (RDP a2 fun p34 =>
 fun _ => ((.pointer p34) : Value) = (.pointer p3)) <|
 SO p3 fun a35 =>
 WR (Addr.add (Addr.add (Addr.add a35 0) 2) 0) (.slice x31 l32 c33) <|
 R (.returned (.tuple #[])))
 (fun e18 => R (.panicked e18)))
 (fun e10 => R (.panicked e10))
theorem does_book_panels_begins_c3 (W : World) (p1 : Option Addr) (a2 : Addr) (R : Ending → Hp → Prop) (s : Hp) (h : T_book_panels_begins_c3 W p1 a2 R s) : Does Pg W F_book_panels_begins_c3 #[(.pointer p1), (.pointer (some a2))] s R :=
  does_of_vfun Pg W an_223 Tryz.func223 rfl (by kernel_rfl) (Eq.mpr (by kernel_rfl) h)
def an_224 : Nat → Ann := fun b => match b with
 | _ => {}
abbrev rv_224 : List ResultVar := [.tmp 2]
abbrev rs_224 : List Nat := [46, 2]
def J_book_isPanels_0 (W : World) (R : Ending → Hp → Prop) (b35 : Bool) (B10 : Nat) : Hp → Prop :=
 BR b35
 (RDL (Addr.add ⟨B10, 0, none⟩ 2) fun x36 l37 c38 =>
 CALL Pg W F_slices_ContainsFunc_api_Kin_api_Kin [(.slice x36 l37 c38), (.func (.func 227) #[] #[(.pointer (some ⟨B10, 0, none⟩))])]
 (fun v39 => TYB v39 fun b41 =>
 R (.returned (.bool (!b41))))
 (fun e40 => R (.panicked e40)))
 (R (.returned (.bool false)))
def J_book_isPanels_1 (W : World) (R : Ending → Hp → Prop) (b28 : Bool) (B10 : Nat) : Hp → Prop :=
 BR b28
 (RDL (Addr.add ⟨B10, 0, none⟩ 1) fun x29 l30 c31 =>
 CALL Pg W F_slices_ContainsFunc_int_int [(.slice x29 l30 c31), (.func (.func 226) #[] #[])]
 (fun v32 => TYB v32 fun b34 =>
 J_book_isPanels_0 W R (!b34) B10)
 (fun e33 => R (.panicked e33)))
 (J_book_isPanels_0 W R false B10)
def J_book_isPanels_2 (W : World) (R : Ending → Hp → Prop) (b21 : Bool) (B10 : Nat) : Hp → Prop :=
 BR b21
 (RDL (Addr.add ⟨B10, 0, none⟩ 0) fun x22 l23 c24 =>
 CALL Pg W F_slices_ContainsFunc_int_int [(.slice x22 l23 c24), (.func (.func 225) #[] #[])]
 (fun v25 => TYB v25 fun b27 =>
 J_book_isPanels_1 W R (!b27) B10)
 (fun e26 => R (.panicked e26)))
 (J_book_isPanels_1 W R false B10)
def J_book_isPanels_3 (W : World) (R : Ending → Hp → Prop) (b17 : Bool) (B10 : Nat) : Hp → Prop :=
 BR b17
 (RDL (Addr.add ⟨B10, 0, none⟩ 2) fun x18 l19 c20 =>
 J_book_isPanels_2 W R (decide ((↑l19 : Int) ≤ 10)) B10)
 (J_book_isPanels_2 W R false B10)
def T_book_isPanels (W : World) (x1 : Option Addr) (l2 : Nat) (c3 : Nat) (x4 : Option Addr) (l5 : Nat) (c6 : Nat) (x7 : Option Addr) (l8 : Nat) (c9 : Nat) (R : Ending → Hp → Prop) : Hp → Prop :=
 NEW 29 [(.slice x1 l2 c3), (.slice x4 l5 c6), (.slice x7 l8 c9)] fun B10 =>
 RDL (Addr.add ⟨B10, 0, none⟩ 0) fun x11 l12 c13 =>
 BR (decide ((↑l12 : Int) ≤ 6))
 (RDL (Addr.add ⟨B10, 0, none⟩ 1) fun x14 l15 c16 =>
 J_book_isPanels_3 W R (decide ((↑l15 : Int) ≤ 6)) B10)
 (J_book_isPanels_3 W R false B10)
theorem does_book_isPanels (W : World) (x1 : Option Addr) (l2 : Nat) (c3 : Nat) (x4 : Option Addr) (l5 : Nat) (c6 : Nat) (x7 : Option Addr) (l8 : Nat) (c9 : Nat) (R : Ending → Hp → Prop) (s : Hp) (h : T_book_isPanels W x1 l2 c3 x4 l5 c6 x7 l8 c9 R s) : Does Pg W F_book_isPanels #[(.agg #[(.slice x1 l2 c3), (.slice x4 l5 c6), (.slice x7 l8 c9)])] s R :=
  does_of_vfun Pg W an_224 Tryz.func224 rfl (by kernel_rfl) (Eq.mpr (by kernel_rfl) h)
def an_225 : Nat → Ann := fun b => match b with
 | _ => {}
abbrev rv_225 : List ResultVar := [.tmp 2]
abbrev rs_225 : List Nat := [6, 2]
def T_book_isPanels_c1 (W : World) (n1 : Int) (R : Ending → Hp → Prop) : Hp → Prop :=
 CALL Pg W F_book_within [(.int .i64 n1), (.int .i64 0), (.int .i64 6)]
 (fun v2 => TYB v2 fun b4 =>
 R (.returned (.bool (!b4))))
 (fun e3 => R (.panicked e3))
theorem does_book_isPanels_c1 (W : World) (n1 : Int) (R : Ending → Hp → Prop) (s : Hp) (h : T_book_isPanels_c1 W n1 R s) : Does Pg W F_book_isPanels_c1 #[(.int .i64 n1)] s R :=
  does_of_vfun Pg W an_225 Tryz.func225 rfl (by kernel_rfl) (Eq.mpr (by kernel_rfl) h)
def an_226 : Nat → Ann := fun b => match b with
 | _ => {}
abbrev rv_226 : List ResultVar := [.tmp 2]
abbrev rs_226 : List Nat := [6, 2]
def T_book_isPanels_c2 (W : World) (n1 : Int) (R : Ending → Hp → Prop) : Hp → Prop :=
 CALL Pg W F_book_within [(.int .i64 n1), (.int .i64 0), (.int .i64 3)]
 (fun v2 => TYB v2 fun b4 =>
 R (.returned (.bool (!b4))))
 (fun e3 => R (.panicked e3))
theorem does_book_isPanels_c2 (W : World) (n1 : Int) (R : Ending → Hp → Prop) (s : Hp) (h : T_book_isPanels_c2 W n1 R s) : Does Pg W F_book_isPanels_c2 #[(.int .i64 n1)] s R :=
  does_of_vfun Pg W an_226 Tryz.func226 rfl (by kernel_rfl) (Eq.mpr (by kernel_rfl) h)
def an_227 : Nat → Ann := fun b => match b with
 | _ => {}
abbrev rv_227 : List ResultVar := [.tmp 3]
abbrev rs_227 : List Nat := [22, 3]
def T_book_isPanels_c3 (W : World) (n1 : Int) (n2 : Int) (a3 : Addr) (R : Ending → Hp → Prop) : Hp → Prop :=
 NEW 85 [(.int .i64 n1), (.int .i64 n2)] fun B4 =>
 RDI .i64 (Addr.add ⟨B4, 0, none⟩ 0) fun n5 =>
 RDL (Addr.add a3 0) fun x6 l7 c8 =>
 CALL Pg W F_book_within [(.int .i64 n5), (.int .i64 0), (.int .i64 (IntKind.wrap .i64 ((↑l7 : Int) - 1)))]
 (fun v9 => TYB v9 fun b11 =>
 BR (!b11)
 (R (.returned (.bool true)))
 (RDI .i64 (Addr.add ⟨B4, 0, none⟩ 1) fun n12 =>
 RDL (Addr.add a3 1) fun x13 l14 c15 =>
 CALL Pg W F_book_within [(.int .i64 n12), (.int .i64 0), (.int .i64 (IntKind.wrap .i64 ((↑l14 : Int) - 1)))]
 (fun v16 => TYB v16 fun b18 =>
 R (.returned (.bool (!b18))))
 (fun e17 => R (.panicked e17))))
 (fun e10 => R (.panicked e10))
theorem does_book_isPanels_c3 (W : World) (n1 : Int) (n2 : Int) (a3 : Addr) (R : Ending → Hp → Prop) (s : Hp) (h : T_book_isPanels_c3 W n1 n2 a3 R s) : Does Pg W F_book_isPanels_c3 #[(.agg #[(.int .i64 n1), (.int .i64 n2)]), (.pointer (some a3))] s R :=
  does_of_vfun Pg W an_227 Tryz.func227 rfl (by kernel_rfl) (Eq.mpr (by kernel_rfl) h)
def an_232 : Nat → Ann := fun b => match b with
 | _ => {}
abbrev rv_232 : List ResultVar := [.tmp 2]
abbrev rs_232 : List Nat := [7, 2]
def T_book_hearing_begins (W : World) (p1 : Option Addr) (R : Ending → Hp → Prop) : Hp → Prop :=
 NEW 160 [(.pointer p1)] fun B2 =>
 MKM fun B3 =>
 MUP Pg 177 (.map (some B3)) (.string ⟨#[104, 101, 97, 114, 105, 110, 103]⟩) (.func (.func 235) #[] #[(.pointer (some ⟨B2, 0, none⟩))]) <|
 MUP Pg 177 (.map (some B3)) (.string ⟨#[107, 110, 111, 119, 110]⟩) (.func (.func 236) #[] #[(.pointer (some ⟨B2, 0, none⟩))]) <|
 R (.returned (.map (some B3)))
theorem does_book_hearing_begins (W : World) (p1 : Option Addr) (R : Ending → Hp → Prop) (s : Hp) (h : T_book_hearing_begins W p1 R s) : Does Pg W F_book_hearing_begins #[(.pointer p1)] s R :=
  does_of_vfun Pg W an_232 Tryz.func232 rfl (by kernel_rfl) (Eq.mpr (by kernel_rfl) h)
def an_233 : Nat → Ann := fun b => match b with
 | 0 => { ms := [16], ks := [.i .i64], us := [0, 2, 6, 7, 15, 47], rt := false, ex := [] }
 | _ => {}
abbrev rv_233 : List ResultVar := []
abbrev rs_233 : List Nat := [47]
def L_book_hearing_other_0 (W : World) (R : Ending → Hp → Prop) (zp0 : Option Addr) (zp1 : Option Addr) (za2 : Addr) (zt3 : ByteArray) (zt4 : ByteArray) (zt5 : ByteArray) (zt6 : ByteArray) (n23 : Int) : Hp → Prop :=
 LOOPN [.i .i64] (fun ys next s => ∀ j : Tm, vc Pg W 47 rs_233 an_233 false (sub (bodyOf Tryz.f233) [1, 1, 0, 1, 0, 0]) 0 (KLoop [16] [0, 2, 6, 7, 15, 47] [(.pointer zp0), (.pointer zp1), (.pointer (some za2)), (.string zt3), (.agg #[(.string zt4), (.string zt5), (.string zt6)]), (.tuple #[])] next (KBlk 0 (KS Pg W 47 rs_233 an_233 false (sub (bodyOf Tryz.f233) [1, 1, 1]) 0 (fin Pg W 47 rv_233 R)))) (known [16] ys (known [0, 2, 6, 7, 15, 47] [(.pointer zp0), (.pointer zp1), (.pointer (some za2)), (.string zt3), (.agg #[(.string zt4), (.string zt5), (.string zt6)]), (.tuple #[])] j)) s) [(.int .i64 n23)]
def J_book_hearing_other_0 (W : World) (R : Ending → Hp → Prop) (zp0 : Option Addr) (zp1 : Option Addr) (za2 : Addr) (zt3 : ByteArray) (zt4 : ByteArray) (zt5 : ByteArray) (zt6 : ByteArray) (nx0 : List Value → Hp → Prop) (n23 : Int) : Hp → Prop :=
 NX [(.pointer zp0), (.pointer zp1), (.pointer (some za2)), (.string zt3), (.agg #[(.string zt4), (.string zt5), (.string zt6)]), (.tuple #[])] [(.pointer zp0), (.pointer zp1), (.pointer (some za2)), (.string zt3), (.agg #[(.string zt4), (.string zt5), (.string zt6)]), (.tuple #[])] (nx0 [(.int .i64 (IntKind.wrap .i64 (n23 + 1)))])
def J_book_hearing_other_1 (W : World) (R : Ending → Hp → Prop) (zp0 : Option Addr) (za2 : Addr) : Hp → Prop :=
 SO zp0 fun a51 =>
 RDL (Addr.add (Addr.add a51 0) 3) fun x52 l53 c54 =>
 RDI .i64 (Addr.add za2 0) fun n55 =>
 RDI .i64 (Addr.add za2 1) fun n56 =>
 RDB (Addr.add za2 2) fun b57 =>
 RDI .i64 (Addr.add za2 3) fun n58 =>
 RDB (Addr.add za2 4) fun b59 =>
 RDB (Addr.add za2 5) fun b60 =>
 RDI .i64 (Addr.add za2 6) fun n61 =>
 RDB (Addr.add za2 7) fun b62 =>
 NEW 122 [(.int .i64 n55), (.int .i64 n56), (.bool b57), (.int .i64 n58), (.bool b59), (.bool b60), (.int .i64 n61), (.bool b62)] fun B63 =>
 ANDS (RDL (Addr.add (Addr.add a51 0) 3) fun x64 l65 c66 =>
 fun _ => ((.slice x64 l65 c66) : Value) = (.slice x52 l53 c54)) <|
 APP Pg 122 8 x52 l53 c54 (some ⟨B63, 0, none⟩) 1 fun x67 l68 c69 =>
 SO zp0 fun a70 =>
 WR (Addr.add (Addr.add (Addr.add a70 0) 3) 0) (.slice x67 l68 c69) <|
 R (.returned (.tuple #[]))
def B_book_hearing_other_0 (W : World) (R : Ending → Hp → Prop) (zp0 : Option Addr) (zp1 : Option Addr) (za2 : Addr) (zt3 : ByteArray) (zt4 : ByteArray) (zt5 : ByteArray) (zt6 : ByteArray) (n23 : Int) (nx0 : List Value → Hp → Prop) : Hp → Prop :=
 BR (decide (n23 < 3))
 (IXG [(.string zt4), (.string zt5), (.string zt6)] 3 1 n23 fun v24 =>
 TYS v24 fun t25 =>
 BR (seqB t25 zt3)
 (WR (Addr.add (Addr.add za2 1) 0) (.int .i64 n23) <|
 J_book_hearing_other_0 W R zp0 zp1 za2 zt3 zt4 zt5 zt6 nx0 n23)
 (J_book_hearing_other_0 W R zp0 zp1 za2 zt3 zt4 zt5 zt6 nx0 n23))
 (CALL Pg W F_book_row_word [(.pointer zp1)]
 (fun v26 => AGG v26 fun q28 => HD q28 fun v29 r30 => TYB v29 fun b31 =>
 HD r30 fun v32 r33 => TYI .i64 v32 fun n34 =>
 HD r33 fun v35 r36 => TYB v35 fun b37 =>
 NL r36 <|
 WR (Addr.add (Addr.add za2 2) 0) (.bool b31) <|
 WR (Addr.add (Addr.add za2 2) 1) (.int .i64 n34) <|
 WR (Addr.add (Addr.add za2 2) 2) (.bool b37) <|
 RDI .i64 (Addr.add za2 1) fun n38 =>
 BR (n38 != 0)
 (CALL Pg W F_book_row_word [(.pointer zp1)]
 (fun v39 => AGG v39 fun q41 => HD q41 fun v42 r43 => TYB v42 fun b44 =>
 HD r43 fun v45 r46 => TYI .i64 v45 fun n47 =>
 HD r46 fun v48 r49 => TYB v48 fun b50 =>
 NL r49 <|
 WR (Addr.add (Addr.add za2 5) 0) (.bool b44) <|
 WR (Addr.add (Addr.add za2 5) 1) (.int .i64 n47) <|
 WR (Addr.add (Addr.add za2 5) 2) (.bool b50) <|
 J_book_hearing_other_1 W R zp0 za2)
 (fun e40 => R (.panicked e40)))
 (J_book_hearing_other_1 W R zp0 za2))
 (fun e27 => R (.panicked e27)))
theorem B_book_hearing_other_0_eq (W : World) (R : Ending → Hp → Prop) (zp0 : Option Addr) (zp1 : Option Addr) (za2 : Addr) (zt3 : ByteArray) (zt4 : ByteArray) (zt5 : ByteArray) (zt6 : ByteArray) (n23 : Int) (nx0 : List Value → Hp → Prop) (j : Tm) : vc Pg W 47 rs_233 an_233 false (sub (bodyOf Tryz.f233) [1, 1, 0, 1, 0, 0]) 0 (KLoop [16] [0, 2, 6, 7, 15, 47] [(.pointer zp0), (.pointer zp1), (.pointer (some za2)), (.string zt3), (.agg #[(.string zt4), (.string zt5), (.string zt6)]), (.tuple #[])] nx0 (KBlk 0 (KS Pg W 47 rs_233 an_233 false (sub (bodyOf Tryz.f233) [1, 1, 1]) 0 (fin Pg W 47 rv_233 R)))) (known [16] [(.int .i64 n23)] (known [0, 2, 6, 7, 15, 47] [(.pointer zp0), (.pointer zp1), (.pointer (some za2)), (.string zt3), (.agg #[(.string zt4), (.string zt5), (.string zt6)]), (.tuple #[])] j)) = B_book_hearing_other_0 W R zp0 zp1 za2 zt3 zt4 zt5 zt6 n23 nx0 := by kernel_rfl
def N_book_hearing_other_0 (I : Int → Hp → Prop) (μ : Int → Hp → Nat) (n230 : Int) (s : Hp) (vs : List Value) : Hp → Prop := fun s' => ∃ n23, vs = [(.int .i64 n23)] ∧ I n23 s' ∧ μ n23 s' < μ n230 s
theorem L_book_hearing_other_0_rule (W : World) (R : Ending → Hp → Prop) (zp0 : Option Addr) (zp1 : Option Addr) (za2 : Addr) (zt3 : ByteArray) (zt4 : ByteArray) (zt5 : ByteArray) (zt6 : ByteArray) (I : Int → Hp → Prop) (μ : Int → Hp → Nat) (n230 : Int) (s : Hp) (h0 : I n230 s)
    (hr : ∀ (n23 : Int) (s : Hp), I n23 s → B_book_hearing_other_0 W R zp0 zp1 za2 zt3 zt4 zt5 zt6 n23 (fun vs => N_book_hearing_other_0 I μ n23 s vs) s) : L_book_hearing_other_0 W R zp0 zp1 za2 zt3 zt4 zt5 zt6 n230 s := by
  refine ⟨fun vs s => ∃ n23, vs = [(.int .i64 n23)] ∧ I n23 s, fun vs s => (match vs with | [.int _ n23] => μ n23 s | _ => 0), ⟨⟨⟨_, rfl⟩, trivial⟩, ⟨_, rfl, h0⟩⟩, ?_⟩
  intro n23 s hI j
  obtain ⟨n23', hy, hI⟩ := hI
  have hI' : I n23 s := by cases hy; exact hI
  have hh := hr n23 s hI'
  rw [← B_book_hearing_other_0_eq W R zp0 zp1 za2 zt3 zt4 zt5 zt6 n23 _ j] at hh
  refine vc_mono ?_ _ _ hh
  exact KLoop_mono (fun vs s' h => by obtain ⟨n231, rfl, h1, h2⟩ := h; exact ⟨⟨⟨_, rfl⟩, trivial⟩, ⟨_, rfl, h1⟩, h2⟩)
def T_book_hearing_other (W : World) (p1 : Option Addr) (t2 : ByteArray) (p3 : Option Addr) (R : Ending → Hp → Prop) : Hp → Prop :=
 CALL Pg W F_book_figure [(.string t2)]
 (fun v4 => TYI .i64 v4 fun n6 =>
 NEWZ Pg 122 fun B7 =>
 WR (Addr.add ⟨B7, 0, none⟩ 0) (.int .i64 n6) <|
 WR (Addr.add ⟨B7, 0, none⟩ 1) (.int .i64 (-1)) <|
 WR (Addr.add ⟨B7, 0, none⟩ 2) (.bool false) <|
 WR (Addr.add ⟨B7, 0, none⟩ 3) (.int .i64 0) <|
 WR (Addr.add ⟨B7, 0, none⟩ 4) (.bool false) <|
 WR (Addr.add ⟨B7, 0, none⟩ 5) (.bool false) <|
 WR (Addr.add ⟨B7, 0, none⟩ 6) (.int .i64 0) <|
 WR (Addr.add ⟨B7, 0, none⟩ 7) (.bool false) <|
 CALL Pg W F_book_row_part [(.pointer p3)]
 (fun v8 => TYS v8 fun t10 =>
 CALL Pg W F_book_kinds []
 (fun v11 => AGG v11 fun q13 => HD q13 fun v14 r15 => TYS v14 fun t16 =>
 HD r15 fun v17 r18 => TYS v17 fun t19 =>
 HD r18 fun v20 r21 => TYS v20 fun t22 =>
 NL r21 <|
 L_book_hearing_other_0 W R p1 p3 ⟨B7, 0, none⟩ t10 t16 t19 t22 0)
 (fun e12 => R (.panicked e12)))
 (fun e9 => R (.panicked e9)))
 (fun e5 => R (.panicked e5))
theorem does_book_hearing_other (W : World) (p1 : Option Addr) (t2 : ByteArray) (p3 : Option Addr) (R : Ending → Hp → Prop) (s : Hp) (h : T_book_hearing_other W p1 t2 p3 R s) : Does Pg W F_book_hearing_other #[(.pointer p1), (.string t2), (.pointer p3)] s R :=
  does_of_vfun Pg W an_233 Tryz.func233 rfl (by kernel_rfl) (Eq.mpr (by kernel_rfl) h)
def an_234 : Nat → Ann := fun b => match b with
 | 0 => { ms := [4, 42], ks := [.s, .i .i64], us := [0, 2, 3, 40, 41, 102], rt := false, ex := [] }
 | 2 => { ms := [4, 89], ks := [.s, .i .i64], us := [2, 3, 87, 88, 102], rt := false, ex := [] }
 | _ => {}
abbrev rv_234 : List ResultVar := [.tmp 2, .tmp 3]
abbrev rs_234 : List Nat := [102, 2, 3]
def L_book_hearing_text_0 (W : World) (R : Ending → Hp → Prop) (zp0 : Option Addr) (zt1 : ByteArray) (zp2 : Option Addr) (zl3 : Nat) (zl4 : Nat) (zn5 : Int) (t29 : ByteArray) (n30 : Int) : Hp → Prop :=
 LOOPN [.s, .i .i64] (fun ys next s => ∀ j : Tm, vc Pg W 102 rs_234 an_234 false (sub (bodyOf Tryz.f234) [1, 1, 1, 0, 1, 0, 0]) 0 (KLoop [4, 42] [0, 2, 3, 40, 41, 102] [(.pointer zp0), (.string zt1), (.bool false), (.slice zp2 zl3 zl4), (.int .i64 zn5), (.tuple #[])] next (KBlk 0 (KS Pg W 102 rs_234 an_234 false (sub (bodyOf Tryz.f234) [1, 1, 1, 1]) 0 (fin Pg W 102 rv_234 R)))) (known [4, 42] ys (known [0, 2, 3, 40, 41, 102] [(.pointer zp0), (.string zt1), (.bool false), (.slice zp2 zl3 zl4), (.int .i64 zn5), (.tuple #[])] j)) s) [(.string t29), (.int .i64 n30)]
def L_book_hearing_text_1 (W : World) (R : Ending → Hp → Prop) (zt0 : ByteArray) (zp1 : Option Addr) (zl2 : Nat) (zl3 : Nat) (zn4 : Int) (t122 : ByteArray) (n123 : Int) : Hp → Prop :=
 LOOPN [.s, .i .i64] (fun ys next s => ∀ j : Tm, vc Pg W 102 rs_234 an_234 false (sub (bodyOf Tryz.f234) [1, 1, 1, 1, 0, 1, 0, 0]) 2 (KLoop [4, 89] [2, 3, 87, 88, 102] [(.string zt0), (.bool false), (.slice zp1 zl2 zl3), (.int .i64 zn4), (.tuple #[])] next (KBlk 2 (KS Pg W 102 rs_234 an_234 false (sub (bodyOf Tryz.f234) [1, 1, 1, 1, 1]) 0 (fin Pg W 102 rv_234 R)))) (known [4, 89] ys (known [2, 3, 87, 88, 102] [(.string zt0), (.bool false), (.slice zp1 zl2 zl3), (.int .i64 zn4), (.tuple #[])] j)) s) [(.string t122), (.int .i64 n123)]
def J_book_hearing_text_0 (W : World) (R : Ending → Hp → Prop) (zp0 : Option Addr) (zt1 : ByteArray) (zp2 : Option Addr) (zl3 : Nat) (zl4 : Nat) (zn5 : Int) (nx0 : List Value → Hp → Prop) (t75 : ByteArray) (n30 : Int) : Hp → Prop :=
 NX [(.pointer zp0), (.string zt1), (.bool false), (.slice zp2 zl3 zl4), (.int .i64 zn5), (.tuple #[])] [(.pointer zp0), (.string zt1), (.bool false), (.slice zp2 zl3 zl4), (.int .i64 zn5), (.tuple #[])] (nx0 [(.string t75), (.int .i64 (IntKind.wrap .i64 (n30 + 1)))])
def B_book_hearing_text_0 (W : World) (R : Ending → Hp → Prop) (zp0 : Option Addr) (zt1 : ByteArray) (zp2 : Option Addr) (zl3 : Nat) (zl4 : Nat) (zn5 : Int) (t29 : ByteArray) (n30 : Int) (nx0 : List Value → Hp → Prop) : Hp → Prop :=
 BR (decide (n30 < zn5))
 (IXS zp2 zl3 n30 8 fun a31 =>
 RDI .i64 (Addr.add a31 0) fun n32 =>
 RDI .i64 (Addr.add a31 1) fun n33 =>
 RDB (Addr.add a31 2) fun b34 =>
 RDI .i64 (Addr.add a31 3) fun n35 =>
 RDB (Addr.add a31 4) fun b36 =>
 RDB (Addr.add a31 5) fun b37 =>
 RDI .i64 (Addr.add a31 6) fun n38 =>
 RDB (Addr.add a31 7) fun b39 =>
 NEWZ Pg 122 fun B40 =>
 WR (Addr.add ⟨B40, 0, none⟩ 0) (.int .i64 n32) <|
 WR (Addr.add ⟨B40, 0, none⟩ 1) (.int .i64 n33) <|
 WR (Addr.add ⟨B40, 0, none⟩ 2) (.bool b34) <|
 WR (Addr.add ⟨B40, 0, none⟩ 3) (.int .i64 n35) <|
 WR (Addr.add ⟨B40, 0, none⟩ 4) (.bool b36) <|
 WR (Addr.add ⟨B40, 0, none⟩ 5) (.bool b37) <|
 WR (Addr.add ⟨B40, 0, none⟩ 6) (.int .i64 n38) <|
 WR (Addr.add ⟨B40, 0, none⟩ 7) (.bool b39) <|
 RDI .i64 (Addr.add ⟨B40, 0, none⟩ 1) fun n41 =>
 BR (n41 == 0)
 (RDI .i64 (Addr.add ⟨B40, 0, none⟩ 0) fun n42 =>
 RDI .i64 (Addr.add ⟨B40, 0, none⟩ 1) fun n43 =>
 RDB (Addr.add (Addr.add ⟨B40, 0, none⟩ 2) 0) fun b44 =>
 RDI .i64 (Addr.add (Addr.add ⟨B40, 0, none⟩ 2) 1) fun n45 =>
 RDB (Addr.add (Addr.add ⟨B40, 0, none⟩ 2) 2) fun b46 =>
 CALL Pg W F_book_kinds []
 (fun v47 => AGG v47 fun q49 => HD q49 fun v50 r51 => TYS v50 fun t52 =>
 HD r51 fun v53 r54 => TYS v53 fun t55 =>
 HD r54 fun v56 r57 => TYS v56 fun t58 =>
 NL r57 <|
 ANDS (RDB (Addr.add (Addr.add ⟨B40, 0, none⟩ 2) 0) fun b59 =>
 RDI .i64 (Addr.add (Addr.add ⟨B40, 0, none⟩ 2) 1) fun n60 =>
 RDB (Addr.add (Addr.add ⟨B40, 0, none⟩ 2) 2) fun b61 =>
 fun _ => ((.agg #[(.bool b59), (.int .i64 n60), (.bool b61)]) : Value) = (.agg #[(.bool b44), (.int .i64 n45), (.bool b46)])) <|
 ANDS (RDI .i64 (Addr.add ⟨B40, 0, none⟩ 1) fun n62 =>
 fun _ => ((.int .i64 n62) : Value) = (.int .i64 n43)) <|
 ANDS (RDI .i64 (Addr.add ⟨B40, 0, none⟩ 0) fun n63 =>
 fun _ => ((.int .i64 n63) : Value) = (.int .i64 n42)) <|
 IXG [(.string t52), (.string t55), (.string t58)] 3 1 n43 fun v64 =>
 TYS v64 fun t65 =>
 ANDS (RDB (Addr.add (Addr.add ⟨B40, 0, none⟩ 2) 0) fun b66 =>
 RDI .i64 (Addr.add (Addr.add ⟨B40, 0, none⟩ 2) 1) fun n67 =>
 RDB (Addr.add (Addr.add ⟨B40, 0, none⟩ 2) 2) fun b68 =>
 fun _ => ((.agg #[(.bool b66), (.int .i64 n67), (.bool b68)]) : Value) = (.agg #[(.bool b44), (.int .i64 n45), (.bool b46)])) <|
 ANDS (RDI .i64 (Addr.add ⟨B40, 0, none⟩ 0) fun n69 =>
 fun _ => ((.int .i64 n69) : Value) = (.int .i64 n42)) <|
 NEW 20 [(.iface 3 (.int .i64 n42)), (.iface 9 (.string t65)), (.iface 79 (.agg #[(.bool b44), (.int .i64 n45), (.bool b46)]))] fun B70 =>
 CALL Pg W F_book_said [(.slice (some ⟨B70, 0, none⟩) 3 3)]
 (fun v71 => TYS v71 fun t73 =>
 STC t29 t73 fun t74 =>
 J_book_hearing_text_0 W R zp0 zt1 zp2 zl3 zl4 zn5 nx0 t74 n30)
 (fun e72 => R (.panicked e72)))
 (fun e48 => R (.panicked e48)))
 (RDI .i64 (Addr.add ⟨B40, 0, none⟩ 0) fun n76 =>
 RDI .i64 (Addr.add ⟨B40, 0, none⟩ 1) fun n77 =>
 RDB (Addr.add (Addr.add ⟨B40, 0, none⟩ 2) 0) fun b78 =>
 RDI .i64 (Addr.add (Addr.add ⟨B40, 0, none⟩ 2) 1) fun n79 =>
 RDB (Addr.add (Addr.add ⟨B40, 0, none⟩ 2) 2) fun b80 =>
 RDB (Addr.add (Addr.add ⟨B40, 0, none⟩ 5) 0) fun b81 =>
 RDI .i64 (Addr.add (Addr.add ⟨B40, 0, none⟩ 5) 1) fun n82 =>
 RDB (Addr.add (Addr.add ⟨B40, 0, none⟩ 5) 2) fun b83 =>
 CALL Pg W F_book_kinds []
 (fun v84 => AGG v84 fun q86 => HD q86 fun v87 r88 => TYS v87 fun t89 =>
 HD r88 fun v90 r91 => TYS v90 fun t92 =>
 HD r91 fun v93 r94 => TYS v93 fun t95 =>
 NL r94 <|
 ANDS (RDB (Addr.add (Addr.add ⟨B40, 0, none⟩ 5) 0) fun b96 =>
 RDI .i64 (Addr.add (Addr.add ⟨B40, 0, none⟩ 5) 1) fun n97 =>
 RDB (Addr.add (Addr.add ⟨B40, 0, none⟩ 5) 2) fun b98 =>
 fun _ => ((.agg #[(.bool b96), (.int .i64 n97), (.bool b98)]) : Value) = (.agg #[(.bool b81), (.int .i64 n82), (.bool b83)])) <|
 ANDS (RDB (Addr.add (Addr.add ⟨B40, 0, none⟩ 2) 0) fun b99 =>
 RDI .i64 (Addr.add (Addr.add ⟨B40, 0, none⟩ 2) 1) fun n100 =>
 RDB (Addr.add (Addr.add ⟨B40, 0, none⟩ 2) 2) fun b101 =>
 fun _ => ((.agg #[(.bool b99), (.int .i64 n100), (.bool b101)]) : Value) = (.agg #[(.bool b78), (.int .i64 n79), (.bool b80)])) <|
 ANDS (RDI .i64 (Addr.add ⟨B40, 0, none⟩ 1) fun n102 =>
 fun _ => ((.int .i64 n102) : Value) = (.int .i64 n77)) <|
 ANDS (RDI .i64 (Addr.add ⟨B40, 0, none⟩ 0) fun n103 =>
 fun _ => ((.int .i64 n103) : Value) = (.int .i64 n76)) <|
 IXG [(.string t89), (.string t92), (.string t95)] 3 1 n77 fun v104 =>
 TYS v104 fun t105 =>
 ANDS (RDB (Addr.add (Addr.add ⟨B40, 0, none⟩ 5) 0) fun b106 =>
 RDI .i64 (Addr.add (Addr.add ⟨B40, 0, none⟩ 5) 1) fun n107 =>
 RDB (Addr.add (Addr.add ⟨B40, 0, none⟩ 5) 2) fun b108 =>
 fun _ => ((.agg #[(.bool b106), (.int .i64 n107), (.bool b108)]) : Value) = (.agg #[(.bool b81), (.int .i64 n82), (.bool b83)])) <|
 ANDS (RDB (Addr.add (Addr.add ⟨B40, 0, none⟩ 2) 0) fun b109 =>
 RDI .i64 (Addr.add (Addr.add ⟨B40, 0, none⟩ 2) 1) fun n110 =>
 RDB (Addr.add (Addr.add ⟨B40, 0, none⟩ 2) 2) fun b111 =>
 fun _ => ((.agg #[(.bool b109), (.int .i64 n110), (.bool b111)]) : Value) = (.agg #[(.bool b78), (.int .i64 n79), (.bool b80)])) <|
 ANDS (RDI .i64 (Addr.add ⟨B40, 0, none⟩ 0) fun n112 =>
 fun _ => ((.int .i64 n112) : Value) = (.int .i64 n76)) <|
 NEW 20 [(.iface 3 (.int .i64 n76)), (.iface 9 (.string t105)), (.iface 79 (.agg #[(.bool b78), (.int .i64 n79), (.bool b80)])), (.iface 79 (.agg #[(.bool b81), (.int .i64 n82), (.bool b83)]))] fun B113 =>
 CALL Pg W F_book_said [(.slice (some ⟨B113, 0, none⟩) 4 4)]
 (fun v114 => TYS v114 fun t116 =>
 STC t29 t116 fun t117 =>
 J_book_hearing_text_0 W R zp0 zt1 zp2 zl3 zl4 zn5 nx0 t117 n30)
 (fun e115 => R (.panicked e115)))
 (fun e85 => R (.panicked e85))))
 (SO zp0 fun a118 =>
 RDL (Addr.add (Addr.add a118 0) 4) fun x119 l120 c121 =>
 L_book_hearing_text_1 W R zt1 x119 l120 c121 (↑l120 : Int) t29 0)
theorem B_book_hearing_text_0_eq (W : World) (R : Ending → Hp → Prop) (zp0 : Option Addr) (zt1 : ByteArray) (zp2 : Option Addr) (zl3 : Nat) (zl4 : Nat) (zn5 : Int) (t29 : ByteArray) (n30 : Int) (nx0 : List Value → Hp → Prop) (j : Tm) : vc Pg W 102 rs_234 an_234 false (sub (bodyOf Tryz.f234) [1, 1, 1, 0, 1, 0, 0]) 0 (KLoop [4, 42] [0, 2, 3, 40, 41, 102] [(.pointer zp0), (.string zt1), (.bool false), (.slice zp2 zl3 zl4), (.int .i64 zn5), (.tuple #[])] nx0 (KBlk 0 (KS Pg W 102 rs_234 an_234 false (sub (bodyOf Tryz.f234) [1, 1, 1, 1]) 0 (fin Pg W 102 rv_234 R)))) (known [4, 42] [(.string t29), (.int .i64 n30)] (known [0, 2, 3, 40, 41, 102] [(.pointer zp0), (.string zt1), (.bool false), (.slice zp2 zl3 zl4), (.int .i64 zn5), (.tuple #[])] j)) = B_book_hearing_text_0 W R zp0 zt1 zp2 zl3 zl4 zn5 t29 n30 nx0 := by kernel_rfl
def N_book_hearing_text_0 (I : ByteArray → Int → Hp → Prop) (μ : ByteArray → Int → Hp → Nat) (t290 : ByteArray) (n300 : Int) (s : Hp) (vs : List Value) : Hp → Prop := fun s' => ∃ t29 n30, vs = [(.string t29), (.int .i64 n30)] ∧ I t29 n30 s' ∧ μ t29 n30 s' < μ t290 n300 s
theorem L_book_hearing_text_0_rule (W : World) (R : Ending → Hp → Prop) (zp0 : Option Addr) (zt1 : ByteArray) (zp2 : Option Addr) (zl3 : Nat) (zl4 : Nat) (zn5 : Int) (I : ByteArray → Int → Hp → Prop) (μ : ByteArray → Int → Hp → Nat) (t290 : ByteArray) (n300 : Int) (s : Hp) (h0 : I t290 n300 s)
    (hr : ∀ (t29 : ByteArray) (n30 : Int) (s : Hp), I t29 n30 s → B_book_hearing_text_0 W R zp0 zt1 zp2 zl3 zl4 zn5 t29 n30 (fun vs => N_book_hearing_text_0 I μ t29 n30 s vs) s) : L_book_hearing_text_0 W R zp0 zt1 zp2 zl3 zl4 zn5 t290 n300 s := by
  refine ⟨fun vs s => ∃ t29 n30, vs = [(.string t29), (.int .i64 n30)] ∧ I t29 n30 s, fun vs s => (match vs with | [.string t29, .int _ n30] => μ t29 n30 s | _ => 0), ⟨⟨⟨_, rfl⟩, ⟨⟨_, rfl⟩, trivial⟩⟩, ⟨_, _, rfl, h0⟩⟩, ?_⟩
  intro t29 n30 s hI j
  obtain ⟨t29', n30', hy, hI⟩ := hI
  have hI' : I t29 n30 s := by cases hy; exact hI
  have hh := hr t29 n30 s hI'
  rw [← B_book_hearing_text_0_eq W R zp0 zt1 zp2 zl3 zl4 zn5 t29 n30 _ j] at hh
  refine vc_mono ?_ _ _ hh
  exact KLoop_mono (fun vs s' h => by obtain ⟨t291, n301, rfl, h1, h2⟩ := h; exact ⟨⟨⟨_, rfl⟩, ⟨⟨_, rfl⟩, trivial⟩⟩, ⟨_, _, rfl, h1⟩, h2⟩)
def B_book_hearing_text_1 (W : World) (R : Ending → Hp → Prop) (zt0 : ByteArray) (zp1 : Option Addr) (zl2 : Nat) (zl3 : Nat) (zn4 : Int) (t122 : ByteArray) (n123 : Int) (nx1 : List Value → Hp → Prop) : Hp → Prop :=
 BR (decide (n123 < zn4))
 (IXS zp1 zl2 n123 3 fun a124 =>
 RDB (Addr.add a124 0) fun b125 =>
 RDI .i64 (Addr.add a124 1) fun n126 =>
 RDB (Addr.add a124 2) fun b127 =>
 NEWZ Pg 79 fun B128 =>
 WR (Addr.add ⟨B128, 0, none⟩ 0) (.bool b125) <|
 WR (Addr.add ⟨B128, 0, none⟩ 1) (.int .i64 n126) <|
 WR (Addr.add ⟨B128, 0, none⟩ 2) (.bool b127) <|
 RDB (Addr.add ⟨B128, 0, none⟩ 0) fun b129 =>
 RDI .i64 (Addr.add ⟨B128, 0, none⟩ 1) fun n130 =>
 RDB (Addr.add ⟨B128, 0, none⟩ 2) fun b131 =>
 NEW 20 [(.iface 9 (.string ⟨#[107, 110, 111, 119, 110]⟩)), (.iface 79 (.agg #[(.bool b129), (.int .i64 n130), (.bool b131)]))] fun B132 =>
 CALL Pg W F_book_said [(.slice (some ⟨B132, 0, none⟩) 2 2)]
 (fun v133 => TYS v133 fun t135 =>
 STC t122 t135 fun t136 =>
 NX [(.string zt0), (.bool false), (.slice zp1 zl2 zl3), (.int .i64 zn4), (.tuple #[])] [(.string zt0), (.bool false), (.slice zp1 zl2 zl3), (.int .i64 zn4), (.tuple #[])] (nx1 [(.string t136), (.int .i64 (IntKind.wrap .i64 (n123 + 1)))]))
 (fun e134 => R (.panicked e134)))
 (R (.returned (.tuple #[(.string t122), (.bool true)])))
theorem B_book_hearing_text_1_eq (W : World) (R : Ending → Hp → Prop) (zt0 : ByteArray) (zp1 : Option Addr) (zl2 : Nat) (zl3 : Nat) (zn4 : Int) (t122 : ByteArray) (n123 : Int) (nx1 : List Value → Hp → Prop) (j : Tm) : vc Pg W 102 rs_234 an_234 false (sub (bodyOf Tryz.f234) [1, 1, 1, 1, 0, 1, 0, 0]) 2 (KLoop [4, 89] [2, 3, 87, 88, 102] [(.string zt0), (.bool false), (.slice zp1 zl2 zl3), (.int .i64 zn4), (.tuple #[])] nx1 (KBlk 2 (KS Pg W 102 rs_234 an_234 false (sub (bodyOf Tryz.f234) [1, 1, 1, 1, 1]) 0 (fin Pg W 102 rv_234 R)))) (known [4, 89] [(.string t122), (.int .i64 n123)] (known [2, 3, 87, 88, 102] [(.string zt0), (.bool false), (.slice zp1 zl2 zl3), (.int .i64 zn4), (.tuple #[])] j)) = B_book_hearing_text_1 W R zt0 zp1 zl2 zl3 zn4 t122 n123 nx1 := by kernel_rfl
def N_book_hearing_text_1 (I : ByteArray → Int → Hp → Prop) (μ : ByteArray → Int → Hp → Nat) (t1220 : ByteArray) (n1230 : Int) (s : Hp) (vs : List Value) : Hp → Prop := fun s' => ∃ t122 n123, vs = [(.string t122), (.int .i64 n123)] ∧ I t122 n123 s' ∧ μ t122 n123 s' < μ t1220 n1230 s
theorem L_book_hearing_text_1_rule (W : World) (R : Ending → Hp → Prop) (zt0 : ByteArray) (zp1 : Option Addr) (zl2 : Nat) (zl3 : Nat) (zn4 : Int) (I : ByteArray → Int → Hp → Prop) (μ : ByteArray → Int → Hp → Nat) (t1220 : ByteArray) (n1230 : Int) (s : Hp) (h0 : I t1220 n1230 s)
    (hr : ∀ (t122 : ByteArray) (n123 : Int) (s : Hp), I t122 n123 s → B_book_hearing_text_1 W R zt0 zp1 zl2 zl3 zn4 t122 n123 (fun vs => N_book_hearing_text_1 I μ t122 n123 s vs) s) : L_book_hearing_text_1 W R zt0 zp1 zl2 zl3 zn4 t1220 n1230 s := by
  refine ⟨fun vs s => ∃ t122 n123, vs = [(.string t122), (.int .i64 n123)] ∧ I t122 n123 s, fun vs s => (match vs with | [.string t122, .int _ n123] => μ t122 n123 s | _ => 0), ⟨⟨⟨_, rfl⟩, ⟨⟨_, rfl⟩, trivial⟩⟩, ⟨_, _, rfl, h0⟩⟩, ?_⟩
  intro t122 n123 s hI j
  obtain ⟨t122', n123', hy, hI⟩ := hI
  have hI' : I t122 n123 s := by cases hy; exact hI
  have hh := hr t122 n123 s hI'
  rw [← B_book_hearing_text_1_eq W R zt0 zp1 zl2 zl3 zn4 t122 n123 _ j] at hh
  refine vc_mono ?_ _ _ hh
  exact KLoop_mono (fun vs s' h => by obtain ⟨t1221, n1231, rfl, h1, h2⟩ := h; exact ⟨⟨⟨_, rfl⟩, ⟨⟨_, rfl⟩, trivial⟩⟩, ⟨_, _, rfl, h1⟩, h2⟩)
def T_book_hearing_text (W : World) (p1 : Option Addr) (R : Ending → Hp → Prop) : Hp → Prop :=
 SO p1 fun a2 =>
 RDI .i64 (Addr.add (Addr.add a2 0) 0) fun n3 =>
 RDI .i64 (Addr.add (Addr.add a2 0) 1) fun n4 =>
 RDI .i64 (Addr.add (Addr.add a2 0) 2) fun n5 =>
 RDL (Addr.add (Addr.add a2 0) 3) fun x6 l7 c8 =>
 RDL (Addr.add (Addr.add a2 0) 4) fun x9 l10 c11 =>
 CALL Pg W F_book_isHearing [(.agg #[(.int .i64 n3), (.int .i64 n4), (.int .i64 n5), (.slice x6 l7 c8), (.slice x9 l10 c11)])]
 (fun v12 => TYB v12 fun b14 =>
 BR (!b14)
 (R (.returned (.tuple #[(.string ⟨#[]⟩), (.bool false)])))
 (SO p1 fun a15 =>
 RDI .i64 (Addr.add (Addr.add a15 0) 0) fun n16 =>
 SO p1 fun a17 =>
 RDI .i64 (Addr.add (Addr.add a17 0) 1) fun n18 =>
 SO p1 fun a19 =>
 RDI .i64 (Addr.add (Addr.add a19 0) 2) fun n20 =>
 NEW 20 [(.iface 9 (.string ⟨#[104, 101, 97, 114, 105, 110, 103]⟩)), (.iface 3 (.int .i64 n16)), (.iface 3 (.int .i64 n18)), (.iface 3 (.int .i64 n20))] fun B21 =>
 CALL Pg W F_book_said [(.slice (some ⟨B21, 0, none⟩) 4 4)]
 (fun v22 => TYS v22 fun t24 =>
 SO p1 fun a25 =>
 RDL (Addr.add (Addr.add a25 0) 3) fun x26 l27 c28 =>
 L_book_hearing_text_0 W R p1 ⟨#[]⟩ x26 l27 c28 (↑l27 : Int) t24 0)
 (fun e23 => R (.panicked e23))))
 (fun e13 => R (.panicked e13))
theorem does_book_hearing_text (W : World) (p1 : Option Addr) (R : Ending → Hp → Prop) (s : Hp) (h : T_book_hearing_text W p1 R s) : Does Pg W F_book_hearing_text #[(.pointer p1)] s R :=
  does_of_vfun Pg W an_234 Tryz.func234 rfl (by kernel_rfl) (Eq.mpr (by kernel_rfl) h)
def an_235 : Nat → Ann := fun b => match b with
 | _ => {}
abbrev rv_235 : List ResultVar := []
abbrev rs_235 : List Nat := [21]
def T_book_hearing_begins_c1 (W : World) (p1 : Option Addr) (a2 : Addr) (R : Ending → Hp → Prop) : Hp → Prop :=
 RDP a2 fun p3 =>
 RDP a2 fun p4 =>
 RDP a2 fun p5 =>
 CALL Pg W F_book_row_number [(.pointer p1)]
 (fun v6 => TYI .i64 v6 fun n8 =>
 ANDS (RDP a2 fun p9 =>
 fun _ => ((.pointer p9) : Value) = (.pointer p5)) <|
 ANDS (RDP a2 fun p10 =>
 fun _ => ((.pointer p10) : Value) = (.pointer p4)) <|
 ANDS (RDP a2 fun p11 =>
 fun _ => ((.pointer p11) : Value) = (.pointer p3)) <|
 CALL Pg W F_book_row_number [(.pointer p1)]
 (fun v12 => TYI .i64 v12 fun n14 =>
 ANDS (RDP a2 fun p15 =>
 fun _ => ((.pointer p15) : Value) = (.pointer p5)) <|
 ANDS (RDP a2 fun p16 =>
 fun _ => ((.pointer p16) : Value) = (.pointer p4)) <|
 ANDS (RDP a2 fun p17 =>
 fun _ => ((.pointer p17) : Value) = (.pointer p3)) <|
 CALL Pg W F_book_row_number [(.pointer p1)]
 (fun v18 => TYI .i64 v18 fun n20 =>
 ANDS (RDP a2 fun p21 =>
 fun _ => ((.pointer p21) : Value) = (.pointer p5)) <|
 ANDS (RDP a2 fun p22 =>
 fun _ => ((.pointer p22) : Value) = (.pointer p4)) <|
 ANDS (RDP a2 fun p23 =>
 fun _ => ((.pointer p23) : Value) = (.pointer p3)) <|
 SO p3 fun a24 =>
 WR (Addr.add (Addr.add (Addr.add a24 0) 0) 0) (.int .i64 n8) <|
 ANDS (RDP a2 fun p25 =>
 fun _ => ((.pointer p25) : Value) = (.pointer p5)) <|
 ANDS (RDP a2 fun p26 =>
 fun _ => ((.pointer p26) : Value) = (.pointer p4)) <|
 SO p4 fun a27 =>
 WR (Addr.add (Addr.add (Addr.add a27 0) 1) 0) (.int .i64 n14) <|
 ANDS (RDP a2 fun p28 =>
 fun _ => ((.pointer p28) : Value) = (.pointer p5)) <|
 SO p5 fun a29 =>
 WR (Addr.add (Addr.add (Addr.add a29 0) 2) 0) (.int .i64 n20) <|
 R (.returned (.tuple #[])))
 (fun e19 => R (.panicked e19)))
 (fun e13 => R (.panicked e13)))
 (fun e7 => R (.panicked e7))
theorem does_book_hearing_begins_c1 (W : World) (p1 : Option Addr) (a2 : Addr) (R : Ending → Hp → Prop) (s : Hp) (h : T_book_hearing_begins_c1 W p1 a2 R s) : Does Pg W F_book_hearing_begins_c1 #[(.pointer p1), (.pointer (some a2))] s R :=
  does_of_vfun Pg W an_235 Tryz.func235 rfl (by kernel_rfl) (Eq.mpr (by kernel_rfl) h)
def an_236 : Nat → Ann := fun b => match b with
 | _ => {}
abbrev rv_236 : List ResultVar := []
abbrev rs_236 : List Nat := [16]
def T_book_hearing_begins_c2 (W : World) (p1 : Option Addr) (a2 : Addr) (R : Ending → Hp → Prop) : Hp → Prop :=
 RDP a2 fun p3 =>
 RDP a2 fun p4 =>
 SO p4 fun a5 =>
 RDL (Addr.add (Addr.add a5 0) 4) fun x6 l7 c8 =>
 CALL Pg W F_book_row_word [(.pointer p1)]
 (fun v9 => AGG v9 fun q11 => HD q11 fun v12 r13 => TYB v12 fun b14 =>
 HD r13 fun v15 r16 => TYI .i64 v15 fun n17 =>
 HD r16 fun v18 r19 => TYB v18 fun b20 =>
 NL r19 <|
 ANDS (RDL (Addr.add (Addr.add a5 0) 4) fun x21 l22 c23 =>
 fun _ => ((.slice x21 l22 c23) : Value) = (.slice x6 l7 c8)) <|
 ANDS (RDP a2 fun p24 =>
 fun _ => ((.pointer p24) : Value) = (.pointer p4)) <|
 ANDS (RDP a2 fun p25 =>
 fun _ => ((.pointer p25) : Value) = (.pointer p3)) <|
 NEW 79 [(.bool b14), (.int .i64 n17), (.bool b20)] fun B26 =>
 ANDS (RDL (Addr.add (Addr.add a5 0) 4) fun x27 l28 c29 =>
 fun _ => ((.slice x27 l28 c29) : Value) = (.slice x6 l7 c8)) <|
 ANDS (RDP a2 fun p30 =>
 fun _ => ((.pointer p30) : Value) = (.pointer p4)) <|
 ANDS (RDP a2 fun p31 =>
 fun _ => ((.pointer p31) : Value) = (.pointer p3)) <|
 APP Pg 79 3 x6 l7 c8 (some ⟨B26, 0, none⟩) 1 fun x32 l33 c34 =>
 ANDS (RDP a2 fun p35 =>
 fun _ => ((.pointer p35) : Value) = (.pointer p3)) <|
 SO p3 fun a36 =>
 WR (Addr.add (Addr.add (Addr.add a36 0) 4) 0) (.slice x32 l33 c34) <|
 R (.returned (.tuple #[])))
 (fun e10 => R (.panicked e10))
theorem does_book_hearing_begins_c2 (W : World) (p1 : Option Addr) (a2 : Addr) (R : Ending → Hp → Prop) (s : Hp) (h : T_book_hearing_begins_c2 W p1 a2 R s) : Does Pg W F_book_hearing_begins_c2 #[(.pointer p1), (.pointer (some a2))] s R :=
  does_of_vfun Pg W an_236 Tryz.func236 rfl (by kernel_rfl) (Eq.mpr (by kernel_rfl) h)
def an_237 : Nat → Ann := fun b => match b with
 | _ => {}
abbrev rv_237 : List ResultVar := [.cell 2 79]
abbrev rs_237 : List Nat := [33, 2]
def J_book_row_word_0 (W : World) (R : Ending → Hp → Prop) (t37 : ByteArray) (B2 : Nat) : Hp → Prop :=
 CALL Pg W F_book_figure [(.string t37)]
 (fun v38 => TYI .i64 v38 fun n40 =>
 WR (Addr.add (Addr.add ⟨B2, 0, none⟩ 1) 0) (.int .i64 n40) <|
 RDB (Addr.add ⟨B2, 0, none⟩ 0) fun b41 =>
 RDI .i64 (Addr.add ⟨B2, 0, none⟩ 1) fun n42 =>
 RDB (Addr.add ⟨B2, 0, none⟩ 2) fun b43 =>
 WR (Addr.add ⟨B2, 0, none⟩ 0) (.bool b41) <|
 WR (Addr.add ⟨B2, 0, none⟩ 1) (.int .i64 n42) <|
 WR (Addr.add ⟨B2, 0, none⟩ 2) (.bool b43) <|
 RDB (Addr.add ⟨B2, 0, none⟩ 0) fun b44 =>
 RDI .i64 (Addr.add ⟨B2, 0, none⟩ 1) fun n45 =>
 RDB (Addr.add ⟨B2, 0, none⟩ 2) fun b46 =>
 R (.returned (.agg #[(.bool b44), (.int .i64 n45), (.bool b46)])))
 (fun e39 => R (.panicked e39))
def T_book_row_word (W : World) (p1 : Option Addr) (R : Ending → Hp → Prop) : Hp → Prop :=
 NEWZ Pg 79 fun B2 =>
 CALL Pg W F_book_row_part [(.pointer p1)]
 (fun v3 => TYS v3 fun t5 =>
 CALL Pg W F_strings_CutPrefix [(.string t5), (.string ⟨#[45]⟩)]
 (fun v6 => TUP v6 fun q8 => HD q8 fun v9 r10 => TYS v9 fun t11 =>
 HD r10 fun v12 r13 => TYB v12 fun b14 =>
 NL r13 <|
 WR (Addr.add (Addr.add ⟨B2, 0, none⟩ 2) 0) (.bool b14) <|
 CALL Pg W F_strings_CutPrefix [(.string t11), (.string ⟨#[119]⟩)]
 (fun v15 => TUP v15 fun q17 => HD q17 fun v18 r19 => TYS v18 fun t20 =>
 HD r19 fun v21 r22 => TYB v21 fun b23 =>
 NL r22 <|
 WR (Addr.add (Addr.add ⟨B2, 0, none⟩ 0) 0) (.bool b23) <|
 RDB (Addr.add ⟨B2, 0, none⟩ 0) fun b24 =>
 BR (!b24)
 (CALL Pg W F_strings_CutPrefix [(.string t20), (.string ⟨#[102]⟩)]
 (fun v25 => TUP v25 fun q27 => HD q27 fun v28 r29 => TYS v28 fun t30 =>
 HD r29 fun v31 r32 => TYB v31 fun b33 =>
 NL r32 <|
 CALL Pg W F_book_need [(.bool b33), (.int .i64 8)]
 (fun v34 => TUP v34 fun q36 => NL q36 <|
 J_book_row_word_0 W R t30 B2)
 (fun e35 => R (.panicked e35)))
 (fun e26 => R (.panicked e26)))
 (J_book_row_word_0 W R t20 B2))
 (fun e16 => R (.panicked e16)))
 (fun e7 => R (.panicked e7)))
 (fun e4 => R (.panicked e4))
theorem does_book_row_word (W : World) (p1 : Option Addr) (R : Ending → Hp → Prop) (s : Hp) (h : T_book_row_word W p1 R s) : Does Pg W F_book_row_word #[(.pointer p1)] s R :=
  does_of_vfun Pg W an_237 Tryz.func237 rfl (by kernel_rfl) (Eq.mpr (by kernel_rfl) h)
def an_238 : Nat → Ann := fun b => match b with
 | _ => {}
abbrev rv_238 : List ResultVar := [.cell 0 284]
abbrev rs_238 : List Nat := [2, 0]
def T_book_kinds (W : World) (R : Ending → Hp → Prop) : Hp → Prop :=
 NEWZ Pg 284 fun B1 =>
 WR (Addr.add ⟨B1, 0, none⟩ 0) (.string ⟨#[105, 115]⟩) <|
 WR (Addr.add ⟨B1, 0, none⟩ 1) (.string ⟨#[111, 114]⟩) <|
 WR (Addr.add ⟨B1, 0, none⟩ 2) (.string ⟨#[105, 102]⟩) <|
 RDS (Addr.add ⟨B1, 0, none⟩ 0) fun t2 =>
 RDS (Addr.add ⟨B1, 0, none⟩ 1) fun t3 =>
 RDS (Addr.add ⟨B1, 0, none⟩ 2) fun t4 =>
 R (.returned (.agg #[(.string t2), (.string t3), (.string t4)]))
theorem does_book_kinds (W : World) (R : Ending → Hp → Prop) (s : Hp) (h : T_book_kinds W R s) : Does Pg W F_book_kinds #[] s R :=
  does_of_vfun Pg W an_238 Tryz.func238 rfl (by kernel_rfl) (Eq.mpr (by kernel_rfl) h)
def an_239 : Nat → Ann := fun b => match b with
 | _ => {}
abbrev rv_239 : List ResultVar := [.tmp 2]
abbrev rs_239 : List Nat := [52, 2]
def J_book_isHearing_0 (W : World) (R : Ending → Hp → Prop) (b41 : Bool) (B10 : Nat) (B11 : Nat) : Hp → Prop :=
 BR b41
 (RDL (Addr.add ⟨B10, 0, none⟩ 4) fun x42 l43 c44 =>
 RDV ⟨B11, 0, none⟩ fun v45 =>
 CALL Pg W F_slices_ContainsFunc_api_Word_api_Word [(.slice x42 l43 c44), v45]
 (fun v46 => TYB v46 fun b48 =>
 R (.returned (.bool (!b48))))
 (fun e47 => R (.panicked e47)))
 (R (.returned (.bool false)))
def J_book_isHearing_1 (W : World) (R : Ending → Hp → Prop) (b34 : Bool) (B10 : Nat) (B11 : Nat) : Hp → Prop :=
 BR b34
 (RDL (Addr.add ⟨B10, 0, none⟩ 3) fun x35 l36 c37 =>
 CALL Pg W F_slices_ContainsFunc_api_Claim_api_Claim [(.slice x35 l36 c37), (.func (.func 242) #[] #[(.pointer (some ⟨B10, 0, none⟩)), (.pointer (some ⟨B11, 0, none⟩))])]
 (fun v38 => TYB v38 fun b40 =>
 J_book_isHearing_0 W R (!b40) B10 B11)
 (fun e39 => R (.panicked e39)))
 (J_book_isHearing_0 W R false B10 B11)
def J_book_isHearing_2 (W : World) (R : Ending → Hp → Prop) (b26 : Bool) (b33 : Bool) (B10 : Nat) (B11 : Nat) : Hp → Prop :=
 BR b26
 (J_book_isHearing_1 W R b33 B10 B11)
 (J_book_isHearing_1 W R false B10 B11)
def J_book_isHearing_3 (W : World) (R : Ending → Hp → Prop) (B10 : Nat) (b26 : Bool) (B11 : Nat) : Hp → Prop :=
 RDL (Addr.add ⟨B10, 0, none⟩ 3) fun x27 l28 c29 =>
 BR (decide ((↑l28 : Int) ≤ 14))
 (RDL (Addr.add ⟨B10, 0, none⟩ 4) fun x30 l31 c32 =>
 J_book_isHearing_2 W R b26 (decide ((↑l31 : Int) ≤ 4)) B10 B11)
 (J_book_isHearing_2 W R b26 false B10 B11)
def J_book_isHearing_4 (W : World) (R : Ending → Hp → Prop) (b20 : Bool) (B10 : Nat) (B11 : Nat) : Hp → Prop :=
 BR b20
 (RDI .i64 (Addr.add ⟨B10, 0, none⟩ 2) fun n21 =>
 RDI .i64 (Addr.add ⟨B10, 0, none⟩ 1) fun n22 =>
 CALL Pg W F_book_within [(.int .i64 n21), (.int .i64 0), (.int .i64 n22)]
 (fun v23 => TYB v23 fun b25 =>
 J_book_isHearing_3 W R B10 b25 B11)
 (fun e24 => R (.panicked e24)))
 (J_book_isHearing_3 W R B10 false B11)
def T_book_isHearing (W : World) (n1 : Int) (n2 : Int) (n3 : Int) (x4 : Option Addr) (l5 : Nat) (c6 : Nat) (x7 : Option Addr) (l8 : Nat) (c9 : Nat) (R : Ending → Hp → Prop) : Hp → Prop :=
 NEW 34 [(.int .i64 n1), (.int .i64 n2), (.int .i64 n3), (.slice x4 l5 c6), (.slice x7 l8 c9)] fun B10 =>
 NEWZ Pg 287 fun B11 =>
 WR (Addr.add ⟨B11, 0, none⟩ 0) (.func (.func 241) #[] #[(.pointer (some ⟨B10, 0, none⟩))]) <|
 RDI .i64 (Addr.add ⟨B10, 0, none⟩ 0) fun n12 =>
 CALL Pg W F_book_within [(.int .i64 n12), (.int .i64 0), (.int .i64 6)]
 (fun v13 => TYB v13 fun b15 =>
 BR b15
 (RDI .i64 (Addr.add ⟨B10, 0, none⟩ 1) fun n16 =>
 CALL Pg W F_book_within [(.int .i64 n16), (.int .i64 0), (.int .i64 6)]
 (fun v17 => TYB v17 fun b19 =>
 J_book_isHearing_4 W R b19 B10 B11)
 (fun e18 => R (.panicked e18)))
 (J_book_isHearing_4 W R false B10 B11))
 (fun e14 => R (.panicked e14))
theorem does_book_isHearing (W : World) (n1 : Int) (n2 : Int) (n3 : Int) (x4 : Option Addr) (l5 : Nat) (c6 : Nat) (x7 : Option Addr) (l8 : Nat) (c9 : Nat) (R : Ending → Hp → Prop) (s : Hp) (h : T_book_isHearing W n1 n2 n3 x4 l5 c6 x7 l8 c9 R s) : Does Pg W F_book_isHearing #[(.agg #[(.int .i64 n1), (.int .i64 n2), (.int .i64 n3), (.slice x4 l5 c6), (.slice x7 l8 c9)])] s R :=
  does_of_vfun Pg W an_239 Tryz.func239 rfl (by kernel_rfl) (Eq.mpr (by kernel_rfl) h)
def an_241 : Nat → Ann := fun b => match b with
 | _ => {}
abbrev rv_241 : List ResultVar := [.tmp 3]
abbrev rs_241 : List Nat := [20, 3]
def T_book_isHearing_c1 (W : World) (b1 : Bool) (n2 : Int) (b3 : Bool) (a4 : Addr) (R : Ending → Hp → Prop) : Hp → Prop :=
 NEW 79 [(.bool b1), (.int .i64 n2), (.bool b3)] fun B5 =>
 RDB (Addr.add ⟨B5, 0, none⟩ 0) fun b6 =>
 BR b6
 (RDI .i64 (Addr.add ⟨B5, 0, none⟩ 1) fun n7 =>
 RDI .i64 (Addr.add a4 1) fun n8 =>
 CALL Pg W F_book_within [(.int .i64 n7), (.int .i64 0), (.int .i64 (IntKind.wrap .i64 (n8 - 1)))]
 (fun v9 => TYB v9 fun b11 =>
 R (.returned (.bool (!b11))))
 (fun e10 => R (.panicked e10)))
 (RDI .i64 (Addr.add ⟨B5, 0, none⟩ 1) fun n12 =>
 RDI .i64 (Addr.add a4 0) fun n13 =>
 CALL Pg W F_book_within [(.int .i64 n12), (.int .i64 0), (.int .i64 (IntKind.wrap .i64 (n13 - 1)))]
 (fun v14 => TYB v14 fun b16 =>
 R (.returned (.bool (!b16))))
 (fun e15 => R (.panicked e15)))
theorem does_book_isHearing_c1 (W : World) (b1 : Bool) (n2 : Int) (b3 : Bool) (a4 : Addr) (R : Ending → Hp → Prop) (s : Hp) (h : T_book_isHearing_c1 W b1 n2 b3 a4 R s) : Does Pg W F_book_isHearing_c1 #[(.agg #[(.bool b1), (.int .i64 n2), (.bool b3)]), (.pointer (some a4))] s R :=
  does_of_vfun Pg W an_241 Tryz.func241 rfl (by kernel_rfl) (Eq.mpr (by kernel_rfl) h)
def an_242 : Nat → Ann := fun b => match b with
 | _ => {}
abbrev rv_242 : List ResultVar := [.tmp 4]
abbrev rs_242 : List Nat := [35, 4]
def J_book_isHearing_c2_0 (W : World) (R : Ending → Hp → Prop) (b18 : Bool) (B11 : Nat) (a10 : Addr) : Hp → Prop :=
 BR b18
 (R (.returned (.bool true)))
 (RDI .i64 (Addr.add ⟨B11, 0, none⟩ 1) fun n19 =>
 BR (n19 == 0)
 (RDB (Addr.add (Addr.add ⟨B11, 0, none⟩ 5) 0) fun b20 =>
 RDI .i64 (Addr.add (Addr.add ⟨B11, 0, none⟩ 5) 1) fun n21 =>
 RDB (Addr.add (Addr.add ⟨B11, 0, none⟩ 5) 2) fun b22 =>
 R (.returned (.bool (!((b20 == false) && ((n21 == 0) && (b22 == false)))))))
 (RDV a10 fun v23 =>
 RDB (Addr.add (Addr.add ⟨B11, 0, none⟩ 5) 0) fun b24 =>
 RDI .i64 (Addr.add (Addr.add ⟨B11, 0, none⟩ 5) 1) fun n25 =>
 RDB (Addr.add (Addr.add ⟨B11, 0, none⟩ 5) 2) fun b26 =>
 CALLV Pg W v23 [(.agg #[(.bool b24), (.int .i64 n25), (.bool b26)])]
 (fun v27 => TYB v27 fun b29 =>
 R (.returned (.bool b29)))
 (fun e28 => R (.panicked e28))))
def J_book_isHearing_c2_1 (W : World) (R : Ending → Hp → Prop) (b17 : Bool) (B11 : Nat) (a10 : Addr) : Hp → Prop :=
 BR b17
 (J_book_isHearing_c2_0 W R true B11 a10)
 (RDV a10 fun v30 =>
 RDB (Addr.add (Addr.add ⟨B11, 0, none⟩ 2) 0) fun b31 =>
 RDI .i64 (Addr.add (Addr.add ⟨B11, 0, none⟩ 2) 1) fun n32 =>
 RDB (Addr.add (Addr.add ⟨B11, 0, none⟩ 2) 2) fun b33 =>
 CALLV Pg W v30 [(.agg #[(.bool b31), (.int .i64 n32), (.bool b33)])]
 (fun v34 => TYB v34 fun b36 =>
 J_book_isHearing_c2_0 W R b36 B11 a10)
 (fun e35 => R (.panicked e35)))
def T_book_isHearing_c2 (W : World) (n1 : Int) (n2 : Int) (b3 : Bool) (n4 : Int) (b5 : Bool) (b6 : Bool) (n7 : Int) (b8 : Bool) (a9 : Addr) (a10 : Addr) (R : Ending → Hp → Prop) : Hp → Prop :=
 NEW 122 [(.int .i64 n1), (.int .i64 n2), (.bool b3), (.int .i64 n4), (.bool b5), (.bool b6), (.int .i64 n7), (.bool b8)] fun B11 =>
 RDI .i64 (Addr.add ⟨B11, 0, none⟩ 0) fun n12 =>
 RDI .i64 (Addr.add a9 1) fun n13 =>
 CALL Pg W F_book_within [(.int .i64 n12), (.int .i64 0), (.int .i64 (IntKind.wrap .i64 (n13 - 1)))]
 (fun v14 => TYB v14 fun b16 =>
 BR (!b16)
 (J_book_isHearing_c2_1 W R true B11 a10)
 (RDI .i64 (Addr.add ⟨B11, 0, none⟩ 1) fun n37 =>
 CALL Pg W F_book_within [(.int .i64 n37), (.int .i64 0), (.int .i64 2)]
 (fun v38 => TYB v38 fun b40 =>
 J_book_isHearing_c2_1 W R (!b40) B11 a10)
 (fun e39 => R (.panicked e39))))
 (fun e15 => R (.panicked e15))
theorem does_book_isHearing_c2 (W : World) (n1 : Int) (n2 : Int) (b3 : Bool) (n4 : Int) (b5 : Bool) (b6 : Bool) (n7 : Int) (b8 : Bool) (a9 : Addr) (a10 : Addr) (R : Ending → Hp → Prop) (s : Hp) (h : T_book_isHearing_c2 W n1 n2 b3 n4 b5 b6 n7 b8 a9 a10 R s) : Does Pg W F_book_isHearing_c2 #[(.agg #[(.int .i64 n1), (.int .i64 n2), (.bool b3), (.int .i64 n4), (.bool b5), (.bool b6), (.int .i64 n7), (.bool b8)]), (.pointer (some a9)), (.pointer (some a10))] s R :=
  does_of_vfun Pg W an_242 Tryz.func242 rfl (by kernel_rfl) (Eq.mpr (by kernel_rfl) h)
end Go.Proofs.YtcjgbanpkmpekaaGreatDoor.G

/- Contracts of the library, laid by the kit's tool, those that are wanted. -/
set_option linter.unusedVariables false
namespace Go.Proofs
open Go.Shelf
def Tryz.lays156_ren : Go.Shelf.Ren := ⟨fun | 156 => 186 | 165 => 196 | 166 => 197 | 169 => 198 | 240 => 203 | 241 => 204 | 276 => 210 | 277 => 211 | n => n, fun | 31 => 151 | 9 => 9 | 3 => 3 | 4 => 4 | 0 => 0 | 20 => 20 | 72 => 254 | 76 => 250 | 70 => 252 | 37 => 50 | 75 => 249 | 127 => 232 | 164 => 265 | 5 => 5 | 80 => 183 | n => n, fun | n => n⟩
theorem Tryz.lays156 : Go.Proofs.Lays.n156 Tryz.prog Tryz.lays156_ren := {
  mixed := by kernel_rfl
  f156 := Tryz.func186.trans (congrArg some (by kernel_rfl))
  f165 := Tryz.func196.trans (congrArg some (by kernel_rfl))
  f166 := Tryz.func197.trans (congrArg some (by kernel_rfl))
  f169 := Tryz.func198.trans (congrArg some (by kernel_rfl))
  f240 := Tryz.func203.trans (congrArg some (by kernel_rfl))
  f241 := Tryz.func204.trans (congrArg some (by kernel_rfl))
  f276 := Tryz.func210.trans (congrArg some (by kernel_rfl))
  f277 := Tryz.func211.trans (congrArg some (by kernel_rfl))
  t0 := Tryz.underlying0
  a0 := Tryz.isAgg0
  z0 := Tryz.sizeOf0
  v0 := Tryz.zeroValue0
  t3 := Tryz.underlying3
  a3 := Tryz.isAgg3
  z3 := Tryz.sizeOf3
  v3 := Tryz.zeroValue3
  t4 := Tryz.underlying4
  a4 := Tryz.isAgg4
  z4 := Tryz.sizeOf4
  v4 := Tryz.zeroValue4
  t9 := Tryz.underlying9
  a9 := Tryz.isAgg9
  z9 := Tryz.sizeOf9
  v9 := Tryz.zeroValue9
  t20 := Tryz.underlying20
  a20 := Tryz.isAgg20
  z20 := Tryz.sizeOf20
  v20 := Tryz.zeroValue20
  t31 := Tryz.underlying151
  a31 := Tryz.isAgg151
  z31 := Tryz.sizeOf151
  v31 := Tryz.zeroValue151
  t37 := Tryz.underlying50
  a37 := Tryz.isAgg50
  z37 := Tryz.sizeOf50
  v37 := Tryz.zeroValue50
  t70 := Tryz.underlying252
  a70 := Tryz.isAgg252
  z70 := Tryz.sizeOf252
  v70 := Tryz.zeroValue252
  t72 := Tryz.underlying254
  a72 := Tryz.isAgg254
  z72 := Tryz.sizeOf254
  v72 := Tryz.zeroValue254
  t75 := Tryz.underlying249
  a75 := Tryz.isAgg249
  z75 := Tryz.sizeOf249
  v75 := Tryz.zeroValue249
  t76 := Tryz.underlying250
  a76 := Tryz.isAgg250
  z76 := Tryz.sizeOf250
  v76 := Tryz.zeroValue250
  t127 := Tryz.underlying232
  a127 := Tryz.isAgg232
  z127 := Tryz.sizeOf232
  v127 := Tryz.zeroValue232
  t164 := Tryz.underlying265
  a164 := Tryz.isAgg265
  z164 := Tryz.sizeOf265
  v164 := Tryz.zeroValue265 }
theorem Tryz.Builder_Extra_156 : Builder.Extra Tryz.prog Tryz.lays156_ren := {
  sizeBuilder := by kernel_rfl
  liesBuilder := by kernel_rfl
  t5 := Tryz.underlying5
  a5 := Tryz.isAgg5
  z5 := Tryz.sizeOf5
  v5 := Tryz.zeroValue5
  infoByte := by kernel_rfl
  cellsByte := by kernel_rfl
  sizeByte := by kernel_rfl
  neB5 := by decide }
open Go.RowKit in
theorem Tryz.strings_Join_none (a : Option Addr) (c : Nat) (sep : ByteArray) (w : World) :
    Calls Tryz.prog 186 #[.slice a 0 c, .string sep] w fun e w' => e = .returned (.string ⟨#[]⟩) ∧ w' = w := Any.strings_Join_none Tryz.lays156 Tryz.Builder_Extra_156 a c sep w
open Go.RowKit in
theorem Tryz.strings_Join (bk o c : Nat) (xs : List ByteArray) (sep : ByteArray) (w : World) (hcells : ∀ (j : Nat) x, xs[j]? = some x → w.cell? ⟨bk, o + j, none⟩ = some (.string x)) (hbk : bk < w.heap.size) (hN : xs.length ≤ 140737488355328) (hcap : xs.length ≤ c) (hlen : (Lib.join (xs.map (·.data.toList)) sep.data.toList).length ≤ 140737488355328) :
    Calls Tryz.prog 186 #[.slice (some ⟨bk, o, none⟩) xs.length c, .string sep] w fun e w' => e = .returned (.string ⟨(Lib.join (xs.map (·.data.toList)) sep.data.toList).toArray⟩) ∧ Below w.heap.size w w' := Any.strings_Join Tryz.lays156 Tryz.Builder_Extra_156 bk o c xs sep w hcells hbk hN hcap hlen
def Tryz.lays137_ren : Go.Shelf.Ren := ⟨fun | 137 => 134 | 217 => 141 | 266 => 147 | n => n, fun | 9 => 9 | 5 => 5 | 3 => 3 | n => n, fun | n => n⟩
theorem Tryz.lays137 : Go.Proofs.Lays.n137 Tryz.prog Tryz.lays137_ren := {
  mixed := by kernel_rfl
  f137 := Tryz.func134.trans (congrArg some (by kernel_rfl))
  f217 := Tryz.func141.trans (congrArg some (by kernel_rfl))
  f266 := Tryz.func147.trans (congrArg some (by kernel_rfl))
  t3 := Tryz.underlying3
  a3 := Tryz.isAgg3
  z3 := Tryz.sizeOf3
  v3 := Tryz.zeroValue3
  t5 := Tryz.underlying5
  a5 := Tryz.isAgg5
  z5 := Tryz.sizeOf5
  v5 := Tryz.zeroValue5
  t9 := Tryz.underlying9
  a9 := Tryz.isAgg9
  z9 := Tryz.sizeOf9
  v9 := Tryz.zeroValue9 }
open Go.RowKit in
theorem Tryz.strings_IndexByte (s : ByteArray) (c : Int) (w : World) :
    Calls Tryz.prog 134 #[.string s, .int .u8 c] w fun e w' => e = .returned (.int .i64 (Lib.indexByte s.data.toList c.toNat.toUInt8)) ∧ w' = w := Any.strings_IndexByte Tryz.lays137 s c w
def Tryz.lays103_ren : Go.Shelf.Ren := ⟨fun | 103 => 240 | 210 => 245 | 206 => 89 | n => n, fun | 9 => 9 | 4 => 4 | 24 => 148 | 3 => 3 | n => n, fun | n => n⟩
theorem Tryz.lays103 : Go.Proofs.Lays.n103 Tryz.prog Tryz.lays103_ren := {
  mixed := by kernel_rfl
  f103 := Tryz.func240.trans (congrArg some (by kernel_rfl))
  f206 := Tryz.func89.trans (congrArg some (by kernel_rfl))
  f210 := Tryz.func245.trans (congrArg some (by kernel_rfl))
  t3 := Tryz.underlying3
  a3 := Tryz.isAgg3
  z3 := Tryz.sizeOf3
  v3 := Tryz.zeroValue3
  t4 := Tryz.underlying4
  a4 := Tryz.isAgg4
  z4 := Tryz.sizeOf4
  v4 := Tryz.zeroValue4
  t9 := Tryz.underlying9
  a9 := Tryz.isAgg9
  z9 := Tryz.sizeOf9
  v9 := Tryz.zeroValue9
  t24 := Tryz.underlying148
  a24 := Tryz.isAgg148
  z24 := Tryz.sizeOf148
  v24 := Tryz.zeroValue148 }
open Go.RowKit in
theorem Tryz.strings_CutPrefix (s p : ByteArray) (w : World) :
    Calls Tryz.prog 240 #[.string s, .string p] w fun e w' => e = .returned (.tuple #[.string ⟨(Lib.trimPrefix s.data.toList p.data.toList).toArray⟩, .bool (Lib.hasPrefix s.data.toList p.data.toList)]) ∧ w' = w := Any.strings_CutPrefix Tryz.lays103 s p w
def Tryz.laysM171_ren : Go.Shelf.Ren := ⟨fun | 171 => 96 | 243 => 119 | 246 => 124 | 283 => 129 | 284 => 130 | 285 => 131 | 286 => 132 | 129 => 137 | 317 => 136 | 318 => 138 | 319 => 139 | 320 => 140 | 337 => 145 | 338 => 146 | n => n, fun | 3 => 3 | 9 => 9 | 2 => 2 | 4 => 4 | 171 => 199 | 0 => 0 | 53 => 200 | 37 => 50 | 5 => 5 | 173 => 203 | 212 => 209 | 51 => 174 | 20 => 20 | 213 => 210 | 46 => 190 | 232 => 218 | 233 => 219 | n => n, fun | 17 => 1 | 18 => 2 | 19 => 3 | n => n⟩
theorem Tryz.laysM171 : Go.Proofs.LaysM.n171 Tryz.prog Tryz.laysM171_ren := {
  mixed := by kernel_rfl
  f129 := Tryz.func137.trans (congrArg some (by kernel_rfl))
  f171 := Tryz.func96.trans (congrArg some (by kernel_rfl))
  f243 := Tryz.func119.trans (congrArg some (by kernel_rfl))
  f246 := Tryz.func124.trans (congrArg some (by kernel_rfl))
  f283 := Tryz.func129.trans (congrArg some (by kernel_rfl))
  f284 := Tryz.func130.trans (congrArg some (by kernel_rfl))
  f285 := Tryz.func131.trans (congrArg some (by kernel_rfl))
  f286 := Tryz.func132.trans (congrArg some (by kernel_rfl))
  f317 := Tryz.func136.trans (congrArg some (by kernel_rfl))
  f318 := Tryz.func138.trans (congrArg some (by kernel_rfl))
  f319 := Tryz.func139.trans (congrArg some (by kernel_rfl))
  f320 := Tryz.func140.trans (congrArg some (by kernel_rfl))
  f337 := Tryz.func145.trans (congrArg some (by kernel_rfl))
  f338 := Tryz.func146.trans (congrArg some (by kernel_rfl))
  t0 := Tryz.underlying0
  a0 := Tryz.isAgg0
  z0 := Tryz.sizeOf0
  v0 := Tryz.zeroValue0
  t2 := Tryz.underlying2
  a2 := Tryz.isAgg2
  z2 := Tryz.sizeOf2
  v2 := Tryz.zeroValue2
  t3 := Tryz.underlying3
  a3 := Tryz.isAgg3
  z3 := Tryz.sizeOf3
  v3 := Tryz.zeroValue3
  t4 := Tryz.underlying4
  a4 := Tryz.isAgg4
  z4 := Tryz.sizeOf4
  v4 := Tryz.zeroValue4
  t5 := Tryz.underlying5
  a5 := Tryz.isAgg5
  z5 := Tryz.sizeOf5
  v5 := Tryz.zeroValue5
  t9 := Tryz.underlying9
  a9 := Tryz.isAgg9
  z9 := Tryz.sizeOf9
  v9 := Tryz.zeroValue9
  t20 := Tryz.underlying20
  a20 := Tryz.isAgg20
  z20 := Tryz.sizeOf20
  v20 := Tryz.zeroValue20
  t37 := Tryz.underlying50
  a37 := Tryz.isAgg50
  z37 := Tryz.sizeOf50
  v37 := Tryz.zeroValue50
  t46 := Tryz.underlying190
  a46 := Tryz.isAgg190
  z46 := Tryz.sizeOf190
  v46 := Tryz.zeroValue190
  t51 := Tryz.underlying174
  a51 := Tryz.isAgg174
  z51 := Tryz.sizeOf174
  v51 := Tryz.zeroValue174
  t53 := Tryz.underlying200
  a53 := Tryz.isAgg200
  z53 := Tryz.sizeOf200
  v53 := Tryz.zeroValue200
  t171 := Tryz.underlying199
  a171 := Tryz.isAgg199
  z171 := Tryz.sizeOf199
  v171 := Tryz.zeroValue199
  t173 := Tryz.underlying203
  a173 := Tryz.isAgg203
  z173 := Tryz.sizeOf203
  v173 := Tryz.zeroValue203
  t212 := Tryz.underlying209
  a212 := Tryz.isAgg209
  z212 := Tryz.sizeOf209
  v212 := Tryz.zeroValue209
  t213 := Tryz.underlying210
  a213 := Tryz.isAgg210
  z213 := Tryz.sizeOf210
  t232 := Tryz.underlying218
  a232 := Tryz.isAgg218
  z232 := Tryz.sizeOf218
  v232 := Tryz.zeroValue218
  t233 := Tryz.underlying219
  a233 := Tryz.isAgg219
  z233 := Tryz.sizeOf219
  v233 := Tryz.zeroValue219
  g17 := by kernel_rfl
  g18 := by kernel_rfl
  g19 := by kernel_rfl
  i0 := by kernel_rfl
  i2 := by kernel_rfl
  i3 := by kernel_rfl
  i4 := by kernel_rfl
  i5 := by kernel_rfl
  i9 := by kernel_rfl
  i20 := by kernel_rfl
  i37 := by kernel_rfl
  i46 := by kernel_rfl
  i51 := by kernel_rfl
  i53 := by kernel_rfl
  i171 := by kernel_rfl
  i173 := by kernel_rfl
  i212 := by kernel_rfl
  i232 := by kernel_rfl
  i233 := by kernel_rfl
  m17 := by kernel_rfl
  m18 := by kernel_rfl
  m19 := by kernel_rfl }
open Go.RowKit Go.Sort Go.Lib in
theorem Tryz.strconv_Itoa (n : Int) (h0 : -9223372036854775808 ≤ n) (h1 : n ≤ 9223372036854775807) (w : World) (htab : Lib.TabIs Tryz.prog w "internal/strconv.uint64pow10" .u64 Lib.pow10Tab) :
    Calls Tryz.prog 96 #[.int .i64 n] w fun e w' => e = .returned (.string ⟨(Lib.itoa n).toArray⟩) ∧ ∃ k os, w' = grow (w.drewN k) os := Any.strconv_Itoa Tryz.laysM171 n h0 h1 w htab
def Tryz.laysC172_ren : Go.Shelf.Ren := ⟨fun | 172 => 194 | 244 => 201 | 245 => 202 | 247 => 205 | 279 => 206 | 280 => 207 | 281 => 208 | 282 => 209 | 287 => 212 | 316 => 213 | 171 => 96 | 205 => 214 | 321 => 215 | 322 => 216 | 243 => 119 | 246 => 124 | 283 => 129 | 284 => 130 | 285 => 131 | 286 => 132 | 129 => 137 | 317 => 136 | 318 => 138 | 319 => 139 | 320 => 140 | 337 => 145 | 338 => 146 | n => n, fun | 9 => 9 | 3 => 3 | 75 => 249 | 76 => 250 | 4 => 4 | 5 => 5 | 167 => 259 | 37 => 50 | 0 => 0 | 85 => 260 | 2 => 2 | 168 => 262 | 53 => 200 | 175 => 268 | 46 => 190 | 210 => 271 | 127 => 232 | 145 => 276 | 143 => 274 | 21 => 21 | 171 => 199 | 173 => 203 | 212 => 209 | 51 => 174 | 20 => 20 | 213 => 210 | 232 => 218 | 233 => 219 | 80 => 183 | n => n, fun | 15 => 6 | 16 => 7 | 17 => 1 | 18 => 2 | 19 => 3 | n => n⟩
theorem Tryz.laysC172 : Go.Proofs.LaysC.n172 Tryz.prog Tryz.laysC172_ren := {
  mixed := by kernel_rfl
  f129 := Tryz.func137.trans (congrArg some (by kernel_rfl))
  f171 := Tryz.func96.trans (congrArg some (by kernel_rfl))
  f172 := Tryz.func194.trans (congrArg some (by kernel_rfl))
  f205 := Tryz.func214.trans (congrArg some (by kernel_rfl))
  f243 := Tryz.func119.trans (congrArg some (by kernel_rfl))
  f244 := Tryz.func201.trans (congrArg some (by kernel_rfl))
  f245 := Tryz.func202.trans (congrArg some (by kernel_rfl))
  f246 := Tryz.func124.trans (congrArg some (by kernel_rfl))
  f247 := Tryz.func205.trans (congrArg some (by kernel_rfl))
  f279 := Tryz.func206.trans (congrArg some (by kernel_rfl))
  f280 := Tryz.func207.trans (congrArg some (by kernel_rfl))
  f281 := Tryz.func208.trans (congrArg some (by kernel_rfl))
  f282 := Tryz.func209.trans (congrArg some (by kernel_rfl))
  f283 := Tryz.func129.trans (congrArg some (by kernel_rfl))
  f284 := Tryz.func130.trans (congrArg some (by kernel_rfl))
  f285 := Tryz.func131.trans (congrArg some (by kernel_rfl))
  f286 := Tryz.func132.trans (congrArg some (by kernel_rfl))
  f287 := Tryz.func212.trans (congrArg some (by kernel_rfl))
  f316 := Tryz.func213.trans (congrArg some (by kernel_rfl))
  f317 := Tryz.func136.trans (congrArg some (by kernel_rfl))
  f318 := Tryz.func138.trans (congrArg some (by kernel_rfl))
  f319 := Tryz.func139.trans (congrArg some (by kernel_rfl))
  f320 := Tryz.func140.trans (congrArg some (by kernel_rfl))
  f321 := Tryz.func215.trans (congrArg some (by kernel_rfl))
  f322 := Tryz.func216.trans (congrArg some (by kernel_rfl))
  f337 := Tryz.func145.trans (congrArg some (by kernel_rfl))
  f338 := Tryz.func146.trans (congrArg some (by kernel_rfl))
  t0 := Tryz.underlying0
  a0 := Tryz.isAgg0
  z0 := Tryz.sizeOf0
  v0 := Tryz.zeroValue0
  t2 := Tryz.underlying2
  a2 := Tryz.isAgg2
  z2 := Tryz.sizeOf2
  v2 := Tryz.zeroValue2
  t3 := Tryz.underlying3
  a3 := Tryz.isAgg3
  z3 := Tryz.sizeOf3
  v3 := Tryz.zeroValue3
  t4 := Tryz.underlying4
  a4 := Tryz.isAgg4
  z4 := Tryz.sizeOf4
  v4 := Tryz.zeroValue4
  t5 := Tryz.underlying5
  a5 := Tryz.isAgg5
  z5 := Tryz.sizeOf5
  v5 := Tryz.zeroValue5
  t9 := Tryz.underlying9
  a9 := Tryz.isAgg9
  z9 := Tryz.sizeOf9
  v9 := Tryz.zeroValue9
  t20 := Tryz.underlying20
  a20 := Tryz.isAgg20
  z20 := Tryz.sizeOf20
  v20 := Tryz.zeroValue20
  t21 := Tryz.underlying21
  a21 := Tryz.isAgg21
  z21 := Tryz.sizeOf21
  v21 := Tryz.zeroValue21
  t37 := Tryz.underlying50
  a37 := Tryz.isAgg50
  z37 := Tryz.sizeOf50
  v37 := Tryz.zeroValue50
  t46 := Tryz.underlying190
  a46 := Tryz.isAgg190
  z46 := Tryz.sizeOf190
  v46 := Tryz.zeroValue190
  t51 := Tryz.underlying174
  a51 := Tryz.isAgg174
  z51 := Tryz.sizeOf174
  v51 := Tryz.zeroValue174
  t53 := Tryz.underlying200
  a53 := Tryz.isAgg200
  z53 := Tryz.sizeOf200
  v53 := Tryz.zeroValue200
  t75 := Tryz.underlying249
  a75 := Tryz.isAgg249
  z75 := Tryz.sizeOf249
  v75 := Tryz.zeroValue249
  t76 := Tryz.underlying250
  a76 := Tryz.isAgg250
  z76 := Tryz.sizeOf250
  v76 := Tryz.zeroValue250
  t85 := Tryz.underlying260
  a85 := Tryz.isAgg260
  z85 := Tryz.sizeOf260
  v85 := Tryz.zeroValue260
  t127 := Tryz.underlying232
  a127 := Tryz.isAgg232
  z127 := Tryz.sizeOf232
  v127 := Tryz.zeroValue232
  t143 := Tryz.underlying274
  a143 := Tryz.isAgg274
  z143 := Tryz.sizeOf274
  v143 := Tryz.zeroValue274
  t145 := Tryz.underlying276
  a145 := Tryz.isAgg276
  z145 := Tryz.sizeOf276
  v145 := Tryz.zeroValue276
  t167 := Tryz.underlying259
  a167 := Tryz.isAgg259
  z167 := Tryz.sizeOf259
  v167 := Tryz.zeroValue259
  t168 := Tryz.underlying262
  a168 := Tryz.isAgg262
  z168 := Tryz.sizeOf262
  v168 := Tryz.zeroValue262
  t171 := Tryz.underlying199
  a171 := Tryz.isAgg199
  z171 := Tryz.sizeOf199
  v171 := Tryz.zeroValue199
  t173 := Tryz.underlying203
  a173 := Tryz.isAgg203
  z173 := Tryz.sizeOf203
  v173 := Tryz.zeroValue203
  t175 := Tryz.underlying268
  a175 := Tryz.isAgg268
  z175 := Tryz.sizeOf268
  v175 := Tryz.zeroValue268
  t210 := Tryz.underlying271
  a210 := Tryz.isAgg271
  z210 := Tryz.sizeOf271
  v210 := Tryz.zeroValue271
  t212 := Tryz.underlying209
  a212 := Tryz.isAgg209
  z212 := Tryz.sizeOf209
  v212 := Tryz.zeroValue209
  t213 := Tryz.underlying210
  a213 := Tryz.isAgg210
  z213 := Tryz.sizeOf210
  t232 := Tryz.underlying218
  a232 := Tryz.isAgg218
  z232 := Tryz.sizeOf218
  v232 := Tryz.zeroValue218
  t233 := Tryz.underlying219
  a233 := Tryz.isAgg219
  z233 := Tryz.sizeOf219
  v233 := Tryz.zeroValue219
  g15 := by kernel_rfl
  g16 := by kernel_rfl
  g17 := by kernel_rfl
  g18 := by kernel_rfl
  g19 := by kernel_rfl
  t80 := Tryz.underlying183
  a80 := Tryz.isAgg183
  z80 := Tryz.sizeOf183
  v80 := Tryz.zeroValue183
  i0 := by kernel_rfl
  i2 := by kernel_rfl
  i3 := by kernel_rfl
  i4 := by kernel_rfl
  i5 := by kernel_rfl
  i9 := by kernel_rfl
  i20 := by kernel_rfl
  i21 := by kernel_rfl
  i37 := by kernel_rfl
  i46 := by kernel_rfl
  i51 := by kernel_rfl
  i53 := by kernel_rfl
  i75 := by kernel_rfl
  i76 := by kernel_rfl
  i80 := by kernel_rfl
  i85 := by kernel_rfl
  i127 := by kernel_rfl
  i143 := by kernel_rfl
  i145 := by kernel_rfl
  i167 := by kernel_rfl
  i168 := by kernel_rfl
  i171 := by kernel_rfl
  i173 := by kernel_rfl
  i175 := by kernel_rfl
  i210 := by kernel_rfl
  i212 := by kernel_rfl
  i232 := by kernel_rfl
  i233 := by kernel_rfl
  m15 := by kernel_rfl
  m16 := by kernel_rfl
  m17 := by kernel_rfl
  m18 := by kernel_rfl
  m19 := by kernel_rfl
  c0 := by kernel_rfl
  c2 := by kernel_rfl
  c3 := by kernel_rfl
  c4 := by kernel_rfl
  c5 := by kernel_rfl
  c9 := by kernel_rfl
  c20 := by kernel_rfl
  c21 := by kernel_rfl
  c37 := by kernel_rfl
  c46 := by kernel_rfl
  c51 := by kernel_rfl
  c53 := by kernel_rfl
  c75 := by kernel_rfl
  c76 := by kernel_rfl
  c80 := by kernel_rfl
  c85 := by kernel_rfl
  c127 := by kernel_rfl
  c143 := by kernel_rfl
  c145 := by kernel_rfl
  c167 := by kernel_rfl
  c168 := by kernel_rfl
  c171 := by kernel_rfl
  c173 := by kernel_rfl
  c175 := by kernel_rfl
  c210 := by kernel_rfl
  c212 := by kernel_rfl
  c213 := by kernel_rfl
  c232 := by kernel_rfl
  c233 := by kernel_rfl }
open Go.RowKit in
theorem Tryz.strconv_Atoi_ok (s : ByteArray) (hmax : s.size ≤ 9223372036854775806) (v : Int) (h : Lib.atoiAll s.data.toList = .ok v) (w : World) :
    Calls Tryz.prog 194 #[.string s] w fun e w' => e = .returned (.tuple #[.int .i64 v, .nilIface]) ∧ (w' = w ∨ ∃ t, w' = Lib.bytesWorld w 5 t) := Any.strconv_Atoi_ok Tryz.laysC172 s hmax v h w
def Tryz.lays145_ren : Go.Shelf.Ren := ⟨fun | 145 => 184 | 220 => 195 | 219 => 151 | 217 => 141 | 225 => 153 | 224 => 154 | 267 => 155 | 266 => 147 | 314 => 156 | n => n, fun | 9 => 9 | 4 => 4 | 59 => 240 | 3 => 3 | 5 => 5 | 46 => 190 | 146 => 175 | 51 => 174 | n => n, fun | 1 => 0 | n => n⟩
theorem Tryz.lays145 : Go.Proofs.Lays.n145 Tryz.prog Tryz.lays145_ren := {
  mixed := by kernel_rfl
  f145 := Tryz.func184.trans (congrArg some (by kernel_rfl))
  f217 := Tryz.func141.trans (congrArg some (by kernel_rfl))
  f219 := Tryz.func151.trans (congrArg some (by kernel_rfl))
  f220 := Tryz.func195.trans (congrArg some (by kernel_rfl))
  f224 := Tryz.func154.trans (congrArg some (by kernel_rfl))
  f225 := Tryz.func153.trans (congrArg some (by kernel_rfl))
  f266 := Tryz.func147.trans (congrArg some (by kernel_rfl))
  f267 := Tryz.func155.trans (congrArg some (by kernel_rfl))
  f314 := Tryz.func156.trans (congrArg some (by kernel_rfl))
  t3 := Tryz.underlying3
  a3 := Tryz.isAgg3
  z3 := Tryz.sizeOf3
  v3 := Tryz.zeroValue3
  t4 := Tryz.underlying4
  a4 := Tryz.isAgg4
  z4 := Tryz.sizeOf4
  v4 := Tryz.zeroValue4
  t5 := Tryz.underlying5
  a5 := Tryz.isAgg5
  z5 := Tryz.sizeOf5
  v5 := Tryz.zeroValue5
  t9 := Tryz.underlying9
  a9 := Tryz.isAgg9
  z9 := Tryz.sizeOf9
  v9 := Tryz.zeroValue9
  t46 := Tryz.underlying190
  a46 := Tryz.isAgg190
  z46 := Tryz.sizeOf190
  v46 := Tryz.zeroValue190
  t51 := Tryz.underlying174
  a51 := Tryz.isAgg174
  z51 := Tryz.sizeOf174
  v51 := Tryz.zeroValue174
  t59 := Tryz.underlying240
  a59 := Tryz.isAgg240
  z59 := Tryz.sizeOf240
  v59 := Tryz.zeroValue240
  t146 := Tryz.underlying175
  a146 := Tryz.isAgg175
  z146 := Tryz.sizeOf175
  v146 := Tryz.zeroValue175
  g1 := by kernel_rfl }
open Go.RowKit Go.Lib in
theorem Tryz.strings_Cut (s sep : ByteArray) (m : Int) (w : World) (hs : s.size < 4294967281) (hm : w.cell? ⟨0, 0, none⟩ = some (.int .i64 m)) :
    Calls Tryz.prog 184 #[.string s, .string sep] w fun e w' => e = .returned (.tuple #[.string ⟨(Lib.cut s.data.toList sep.data.toList).1.toArray⟩, .string ⟨(Lib.cut s.data.toList sep.data.toList).2.1.toArray⟩, .bool (Lib.cut s.data.toList sep.data.toList).2.2]) ∧ ∃ n, w' = w.drewN n := Any.strings_Cut Tryz.lays145 s sep m w hs hm
def Tryz.lays148_ren : Go.Shelf.Ren := ⟨fun | 148 => 46 | 222 => 90 | 223 => 91 | 269 => 117 | n => n, fun | 9 => 9 | 3 => 3 | 4 => 4 | 5 => 5 | 146 => 175 | 51 => 174 | 46 => 190 | n => n, fun | n => n⟩
theorem Tryz.lays148 : Go.Proofs.Lays.n148 Tryz.prog Tryz.lays148_ren := {
  mixed := by kernel_rfl
  f148 := Tryz.func46.trans (congrArg some (by kernel_rfl))
  f222 := Tryz.func90.trans (congrArg some (by kernel_rfl))
  f223 := Tryz.func91.trans (congrArg some (by kernel_rfl))
  f269 := Tryz.func117.trans (congrArg some (by kernel_rfl))
  t3 := Tryz.underlying3
  a3 := Tryz.isAgg3
  z3 := Tryz.sizeOf3
  v3 := Tryz.zeroValue3
  t4 := Tryz.underlying4
  a4 := Tryz.isAgg4
  z4 := Tryz.sizeOf4
  v4 := Tryz.zeroValue4
  t5 := Tryz.underlying5
  a5 := Tryz.isAgg5
  z5 := Tryz.sizeOf5
  v5 := Tryz.zeroValue5
  t9 := Tryz.underlying9
  a9 := Tryz.isAgg9
  z9 := Tryz.sizeOf9
  v9 := Tryz.zeroValue9
  t46 := Tryz.underlying190
  a46 := Tryz.isAgg190
  z46 := Tryz.sizeOf190
  v46 := Tryz.zeroValue190
  t51 := Tryz.underlying174
  a51 := Tryz.isAgg174
  z51 := Tryz.sizeOf174
  v51 := Tryz.zeroValue174
  t146 := Tryz.underlying175
  a146 := Tryz.isAgg175
  z146 := Tryz.sizeOf175
  v146 := Tryz.zeroValue175 }
open Go.RowKit Go.Lib in
theorem Tryz.strings_LastIndex (s sub : ByteArray) (hs : s.size < 4611686018427387904) (w : World) :
    Calls Tryz.prog 46 #[.string s, .string sub] w fun e w' => e = .returned (.int .i64 (Lib.lastIndex s.data.toList sub.data.toList)) ∧ w' = w := Any.strings_LastIndex Tryz.lays148 s sub hs w
def Tryz.lays99_ren : Go.Shelf.Ren := ⟨fun | 99 => 44 | 206 => 89 | n => n, fun | 9 => 9 | 4 => 4 | 3 => 3 | n => n, fun | n => n⟩
theorem Tryz.lays99 : Go.Proofs.Lays.n99 Tryz.prog Tryz.lays99_ren := {
  mixed := by kernel_rfl
  f99 := Tryz.func44.trans (congrArg some (by kernel_rfl))
  f206 := Tryz.func89.trans (congrArg some (by kernel_rfl))
  t3 := Tryz.underlying3
  a3 := Tryz.isAgg3
  z3 := Tryz.sizeOf3
  v3 := Tryz.zeroValue3
  t4 := Tryz.underlying4
  a4 := Tryz.isAgg4
  z4 := Tryz.sizeOf4
  v4 := Tryz.zeroValue4
  t9 := Tryz.underlying9
  a9 := Tryz.isAgg9
  z9 := Tryz.sizeOf9
  v9 := Tryz.zeroValue9 }
open Go.RowKit Go.Lib in
theorem Tryz.strings_HasPrefix (s p : ByteArray) (w : World) :
    Calls Tryz.prog 44 #[.string s, .string p] w fun e w' => e = .returned (.bool (Lib.hasPrefix s.data.toList p.data.toList)) ∧ w' = w := Any.strings_HasPrefix Tryz.lays99 s p w
def Tryz.lays100_ren : Go.Shelf.Ren := ⟨fun | 100 => 126 | 207 => 118 | n => n, fun | 9 => 9 | 4 => 4 | 3 => 3 | n => n, fun | n => n⟩
theorem Tryz.lays100 : Go.Proofs.Lays.n100 Tryz.prog Tryz.lays100_ren := {
  mixed := by kernel_rfl
  f100 := Tryz.func126.trans (congrArg some (by kernel_rfl))
  f207 := Tryz.func118.trans (congrArg some (by kernel_rfl))
  t3 := Tryz.underlying3
  a3 := Tryz.isAgg3
  z3 := Tryz.sizeOf3
  v3 := Tryz.zeroValue3
  t4 := Tryz.underlying4
  a4 := Tryz.isAgg4
  z4 := Tryz.sizeOf4
  v4 := Tryz.zeroValue4
  t9 := Tryz.underlying9
  a9 := Tryz.isAgg9
  z9 := Tryz.sizeOf9
  v9 := Tryz.zeroValue9 }
open Go.RowKit Go.Lib in
theorem Tryz.strings_HasSuffix (s p : ByteArray) (w : World) (hs : s.size ≤ 9223372036854775807) :
    Calls Tryz.prog 126 #[.string s, .string p] w fun e w' => e = .returned (.bool (Lib.hasSuffix s.data.toList p.data.toList)) ∧ w' = w := Any.strings_HasSuffix Tryz.lays100 s p w hs
def Tryz.lays102_ren : Go.Shelf.Ren := ⟨fun | 102 => 47 | 209 => 92 | 207 => 118 | n => n, fun | 9 => 9 | 4 => 4 | 3 => 3 | n => n, fun | n => n⟩
theorem Tryz.lays102 : Go.Proofs.Lays.n102 Tryz.prog Tryz.lays102_ren := {
  mixed := by kernel_rfl
  f102 := Tryz.func47.trans (congrArg some (by kernel_rfl))
  f207 := Tryz.func118.trans (congrArg some (by kernel_rfl))
  f209 := Tryz.func92.trans (congrArg some (by kernel_rfl))
  t3 := Tryz.underlying3
  a3 := Tryz.isAgg3
  z3 := Tryz.sizeOf3
  v3 := Tryz.zeroValue3
  t4 := Tryz.underlying4
  a4 := Tryz.isAgg4
  z4 := Tryz.sizeOf4
  v4 := Tryz.zeroValue4
  t9 := Tryz.underlying9
  a9 := Tryz.isAgg9
  z9 := Tryz.sizeOf9
  v9 := Tryz.zeroValue9 }
open Go.RowKit Go.Lib in
theorem Tryz.strings_TrimSuffix (s p : ByteArray) (w : World) (hs : s.size ≤ 9223372036854775807) :
    Calls Tryz.prog 47 #[.string s, .string p] w fun e w' => e = .returned (.string ⟨(Lib.trimSuffix s.data.toList p.data.toList).toArray⟩) ∧ w' = w := Any.strings_TrimSuffix Tryz.lays102 s p w hs
def Tryz.lays146_ren : Go.Shelf.Ren := ⟨fun | 146 => 128 | 221 => 135 | 268 => 142 | 138 => 143 | 143 => 144 | 195 => 148 | 197 => 149 | 218 => 150 | 219 => 151 | 260 => 152 | 217 => 141 | 225 => 153 | 224 => 154 | 267 => 155 | 266 => 147 | 314 => 156 | n => n, fun | 9 => 9 | 31 => 151 | 3 => 3 | 4 => 4 | 0 => 0 | 105 => 216 | 21 => 21 | 5 => 5 | 46 => 190 | 119 => 220 | 139 => 223 | 138 => 222 | 146 => 175 | 51 => 174 | n => n, fun | 1 => 0 | 3 => 4 | 4 => 5 | n => n⟩
theorem Tryz.lays146 : Go.Proofs.Lays.n146 Tryz.prog Tryz.lays146_ren := {
  mixed := by kernel_rfl
  f138 := Tryz.func143.trans (congrArg some (by kernel_rfl))
  f143 := Tryz.func144.trans (congrArg some (by kernel_rfl))
  f146 := Tryz.func128.trans (congrArg some (by kernel_rfl))
  f195 := Tryz.func148.trans (congrArg some (by kernel_rfl))
  f197 := Tryz.func149.trans (congrArg some (by kernel_rfl))
  f217 := Tryz.func141.trans (congrArg some (by kernel_rfl))
  f218 := Tryz.func150.trans (congrArg some (by kernel_rfl))
  f219 := Tryz.func151.trans (congrArg some (by kernel_rfl))
  f221 := Tryz.func135.trans (congrArg some (by kernel_rfl))
  f224 := Tryz.func154.trans (congrArg some (by kernel_rfl))
  f225 := Tryz.func153.trans (congrArg some (by kernel_rfl))
  f260 := Tryz.func152.trans (congrArg some (by kernel_rfl))
  f266 := Tryz.func147.trans (congrArg some (by kernel_rfl))
  f267 := Tryz.func155.trans (congrArg some (by kernel_rfl))
  f268 := Tryz.func142.trans (congrArg some (by kernel_rfl))
  f314 := Tryz.func156.trans (congrArg some (by kernel_rfl))
  t0 := Tryz.underlying0
  a0 := Tryz.isAgg0
  z0 := Tryz.sizeOf0
  v0 := Tryz.zeroValue0
  t3 := Tryz.underlying3
  a3 := Tryz.isAgg3
  z3 := Tryz.sizeOf3
  v3 := Tryz.zeroValue3
  t4 := Tryz.underlying4
  a4 := Tryz.isAgg4
  z4 := Tryz.sizeOf4
  v4 := Tryz.zeroValue4
  t5 := Tryz.underlying5
  a5 := Tryz.isAgg5
  z5 := Tryz.sizeOf5
  v5 := Tryz.zeroValue5
  t9 := Tryz.underlying9
  a9 := Tryz.isAgg9
  z9 := Tryz.sizeOf9
  v9 := Tryz.zeroValue9
  t21 := Tryz.underlying21
  a21 := Tryz.isAgg21
  z21 := Tryz.sizeOf21
  v21 := Tryz.zeroValue21
  t31 := Tryz.underlying151
  a31 := Tryz.isAgg151
  z31 := Tryz.sizeOf151
  v31 := Tryz.zeroValue151
  t46 := Tryz.underlying190
  a46 := Tryz.isAgg190
  z46 := Tryz.sizeOf190
  v46 := Tryz.zeroValue190
  t51 := Tryz.underlying174
  a51 := Tryz.isAgg174
  z51 := Tryz.sizeOf174
  v51 := Tryz.zeroValue174
  t105 := Tryz.underlying216
  a105 := Tryz.isAgg216
  z105 := Tryz.sizeOf216
  v105 := Tryz.zeroValue216
  t119 := Tryz.underlying220
  a119 := Tryz.isAgg220
  z119 := Tryz.sizeOf220
  t138 := Tryz.underlying222
  a138 := Tryz.isAgg222
  z138 := Tryz.sizeOf222
  v138 := Tryz.zeroValue222
  t139 := Tryz.underlying223
  a139 := Tryz.isAgg223
  z139 := Tryz.sizeOf223
  v139 := Tryz.zeroValue223
  t146 := Tryz.underlying175
  a146 := Tryz.isAgg175
  z146 := Tryz.sizeOf175
  v146 := Tryz.zeroValue175
  g1 := by kernel_rfl
  g3 := by kernel_rfl
  g4 := by kernel_rfl }
open Go.RowKit Go.Lib in
theorem Tryz.strings_Split (s sep : ByteArray) (m : Int) (w : World) (hs : s.size < 4294967281) (hm : w.cell? ⟨0, 0, none⟩ = some (.int .i64 m)) (h1 : 1 ≤ sep.size) :
    Calls Tryz.prog 128 #[.string s, .string sep] w fun e w' =>
      e = .returned (.slice (some ⟨w.heap.size, 0, none⟩) (Lib.countB s sep + 1) (Lib.countB s sep + 1)) ∧ w' = w.alloc (.cells ((Lib.splitB sep 0 (Lib.countB s sep) s).map Value.string).toArray 9) := Any.strings_Split Tryz.lays146 (by kernel_rfl) s sep m w hs hm h1
end Go.Proofs

/- Is the table of powers of ten laid? (Two variants of this text: bookt, bookn.) -/
namespace Go.Proofs.YtcjgbanpkmpekaaGreatDoor.G
def Big : Prop := False
end Go.Proofs.YtcjgbanpkmpekaaGreatDoor.G

/- The library's functions, over the visible heap. -/
set_option linter.unusedVariables false
set_option linter.unusedSimpArgs false
namespace Go.Proofs.YtcjgbanpkmpekaaGreatDoor.G
open Go.V Go.RowKit
open Go.Sort (grow)

/-- A number of 64 bits. -/
def rp (n : Int) : Prop := -9223372036854775808 ≤ n ∧ n ≤ 9223372036854775807
/-- A number that can be written, with the table of powers of ten or without it. -/
def rg (n : Int) : Prop := rp n ∧ (Big ∨ (0 ≤ n ∧ n < 100))
theorem rg_small {n : Int} (h0 : 0 ≤ n) (h1 : n < 100) : rg n := ⟨⟨by omega, by omega⟩, .inr ⟨h0, h1⟩⟩
/-- What package-level variables hold. -/
structure Env (s : Hp) : Prop where
  mx : ∃ m, cellAt s ⟨0, 0, none⟩ = some (.int .i64 m)
  pow : Big → Tab Pg s "internal/strconv.uint64pow10" (Lib.pow10Tab.map fun z => Value.int .u64 z).toArray
  es : Big → ∃ ev, cellAt s ⟨6, 0, none⟩ = some ev ∧ (ev = .nilIface ∨ ∃ te pe, ev = .iface te pe)
  sz : 8 ≤ s.size
  er : Big → ∃ ev, cellAt s ⟨7, 0, none⟩ = some ev ∧ (ev = .nilIface ∨ ∃ te pe, ev = .iface te pe)

theorem cell_ext {s s' : Hp} {a : Addr} {v : Value} (h : cellAt s a = some v) (e : Ext s s') : cellAt s' a = some v := by
  obtain ⟨c, t, f, hb⟩ := block_of_cell h
  unfold cellAt at h ⊢
  rw [e.2 _ (Array.getElem?_eq_some_iff.1 hb).1]
  exact h
theorem Env.ext {s s' : Hp} (h : Env s) (e : Ext s s') : Env s' where
  mx := by obtain ⟨m, hm⟩ := h.mx; exact ⟨m, cell_ext hm e⟩
  pow := fun b => (h.pow b).ext e
  es := fun b => by obtain ⟨v, hm, hv⟩ := h.es b; exact ⟨v, cell_ext hm e, hv⟩
  sz := Nat.le_trans h.sz e.1
  er := fun b => by obtain ⟨v, hm, hv⟩ := h.er b; exact ⟨v, cell_ext hm e, hv⟩

section
variable {W : World} {s : Hp} {K : VK} {E : List PanicEntry → Hp → Prop}
theorem call_of {f : FuncId} {args : List Value} {v : Value} (h : Does Pg W f args.toArray s fun e s' => e = .returned v ∧ Ext s s') (hk : ∀ s', Ext s s' → K v s') : CALL Pg W f args K E s :=
  h.mono fun e s' ⟨h1, h2⟩ => by subst h1; exact hk s' h2
theorem cell_of {X : Nat → Prop} {hp : Hp} {d : Nat} {a : Addr} {v : Value} (vis : Vis X hp s) (h : cellAt s a = some v) : (wat W hp d).cell? a = some v := by rw [wat_cell, ← vis.cell]; exact h

theorem c_Itoa {n : Int} (hr : rg n) (he : Env s) (hk : ∀ s', Ext s s' → K (.string ⟨(Lib.itoa n).toArray⟩) s') : CALL Pg W F_strconv_Itoa [.int .i64 n] K E s := by
  obtain ⟨⟨h0, h1⟩, hb | ⟨hs0, hs1⟩⟩ := hr
  rotate_left
  · obtain ⟨i, rfl⟩ : ∃ i : Nat, n = i := ⟨n.toNat, by omega⟩
    refine call_of (does_of_quiet (by kernel_rfl) fun w => ?_) hk
    refine (Any.strconv_Itoa_small { Tryz.laysM171 with } i (by omega) w).mono ?_
    rintro e w' ⟨rfl, rfl⟩
    rw [Lib.itoa_nonneg]
    exact ⟨rfl, rfl⟩
  refine call_of (does_of_calls (by kernel_rfl) fun X hp d vis => ?_) hk
  refine (Tryz.strconv_Itoa n h0 h1 (wat W hp d) ((he.pow hb).var vis)).mono ?_
  rintro e w' ⟨h, k, os, rfl⟩
  exact ⟨(below_drewN _ k _).trans (show Below ((wat W hp d).drewN k).heap.size _ _ from below_grow _ os), fun s' _ _ hx => ⟨h, hx⟩⟩
theorem c_HasSuffix {a b : ByteArray} (ha : a.size ≤ 9223372036854775807) (hk : ∀ s', Ext s s' → K (.bool (Lib.hasSuffix a.data.toList b.data.toList)) s') : CALL Pg W F_strings_HasSuffix [.string a, .string b] K E s :=
  call_of (does_of_quiet (by kernel_rfl) fun w => Tryz.strings_HasSuffix a b w ha) hk
theorem c_HasPrefix {a b : ByteArray} (hk : ∀ s', Ext s s' → K (.bool (Lib.hasPrefix a.data.toList b.data.toList)) s') : CALL Pg W F_strings_HasPrefix [.string a, .string b] K E s :=
  call_of (does_of_quiet (by kernel_rfl) fun w => Tryz.strings_HasPrefix a b w) hk
theorem c_TrimSuffix {a b : ByteArray} (ha : a.size ≤ 9223372036854775807) (hk : ∀ s', Ext s s' → K (.string ⟨(Lib.trimSuffix a.data.toList b.data.toList).toArray⟩) s') : CALL Pg W F_strings_TrimSuffix [.string a, .string b] K E s :=
  call_of (does_of_quiet (by kernel_rfl) fun w => Tryz.strings_TrimSuffix a b w ha) hk
theorem c_CutPrefix {a b : ByteArray} (hk : ∀ s', Ext s s' → K (.tuple #[.string ⟨(Lib.trimPrefix a.data.toList b.data.toList).toArray⟩, .bool (Lib.hasPrefix a.data.toList b.data.toList)]) s') : CALL Pg W F_strings_CutPrefix [.string a, .string b] K E s :=
  call_of (does_of_quiet (by kernel_rfl) fun w => Tryz.strings_CutPrefix a b w) hk
theorem c_LastIndex {a b : ByteArray} (ha : a.size < 4611686018427387904) (hk : ∀ s', Ext s s' → K (.int .i64 (Lib.lastIndex a.data.toList b.data.toList)) s') : CALL Pg W F_strings_LastIndex [.string a, .string b] K E s :=
  call_of (does_of_quiet (by kernel_rfl) fun w => Tryz.strings_LastIndex a b ha w) hk
theorem c_IndexByte {a : ByteArray} {c : Int} (hk : ∀ s', Ext s s' → K (.int .i64 (Lib.indexByte a.data.toList c.toNat.toUInt8)) s') : CALL Pg W F_strings_IndexByte [.string a, .int .u8 c] K E s :=
  call_of (does_of_quiet (by kernel_rfl) fun w => Tryz.strings_IndexByte a c w) hk
theorem c_Cut {a b : ByteArray} (ha : a.size < 4294967281) (he : Env s) (hk : ∀ s', Ext s s' → K (.tuple #[.string ⟨(Lib.cut a.data.toList b.data.toList).1.toArray⟩, .string ⟨(Lib.cut a.data.toList b.data.toList).2.1.toArray⟩, .bool (Lib.cut a.data.toList b.data.toList).2.2]) s') :
    CALL Pg W F_strings_Cut [.string a, .string b] K E s := by
  obtain ⟨m, hm⟩ := he.mx
  refine call_of (does_of_calls (by kernel_rfl) fun X hp d vis => ?_) hk
  refine (Tryz.strings_Cut a b m (wat W hp d) ha (cell_of vis hm)).mono ?_
  rintro e w' ⟨h, k, rfl⟩
  exact ⟨below_drewN _ k _, fun s' _ _ hx => ⟨h, hx⟩⟩
theorem c_Atoi {a : ByteArray} (ha : a.size ≤ 281474976710656) (he : Env s) (hB : (∀ v, Lib.atoiAll a.data.toList ≠ .ok v) → Big) (hok : ∀ v s', Lib.atoiAll a.data.toList = .ok v → Ext s s' → K (.tuple #[.int .i64 v, .nilIface]) s')
    (hno : (∀ v, Lib.atoiAll a.data.toList ≠ .ok v) → ∀ n te pe s', Ext s s' → K (.tuple #[.int .i64 n, .iface te pe]) s') : CALL Pg W F_strconv_Atoi [.string a] K E s := by
  cases hr : Lib.atoiAll a.data.toList with
  | ok v =>
    refine call_of (does_of_calls (by kernel_rfl) fun X hp d vis => ?_) (fun s' hx => hok v s' hr hx)
    refine (Tryz.strconv_Atoi_ok a (by omega) v hr (wat W hp d)).mono ?_
    rintro e w' ⟨h, h2⟩
    refine ⟨?_, fun s' _ _ hx => ⟨h, hx⟩⟩
    rcases h2 with rfl | ⟨t, rfl⟩
    · exact Below.refl _ _
    · exact Lib.bytesWorld_below (wat W hp d) 5 _
  | _ => exact (show False from hB (fun v h => by rw [hr] at h; cases h)).elim
theorem c_Split {a b : ByteArray} (ha : a.size < 4294967281) (hb : 1 ≤ b.size) (he : Env s)
    (hk : ∀ s', s' = s.push (.cells ((Lib.splitB b 0 (Lib.countB a b) a).map Value.string).toArray 9 (0, 0)) → K (.slice (some ⟨s.size, 0, none⟩) (Lib.countB a b + 1) (Lib.countB a b + 1)) s') :
    CALL Pg W F_strings_Split [.string a, .string b] K E s := by
  obtain ⟨m, hm⟩ := he.mx
  refine CALL_of ((does_of_calls (R := fun e s' => e = .returned (.slice (some ⟨s.size, 0, none⟩) (Lib.countB a b + 1) (Lib.countB a b + 1)) ∧ s' = s.push (.cells ((Lib.splitB b 0 (Lib.countB a b) a).map Value.string).toArray 9 (0, 0))) (by kernel_rfl) fun X hp d vis => ?_).mono ?_)
  · refine (Tryz.strings_Split a b m (wat W hp d) ha (cell_of vis hm) hb).mono ?_
    rintro e w' ⟨h, rfl⟩
    have e0 : (wat W hp d).heap.size = s.size := vis.size.symm
    refine ⟨Below.alloc (w := wat W hp d) (Below.refl hp.size (wat W hp d)) (Nat.le_refl _) _, fun s' h1 h2 hx => ⟨by rw [h, e0], ?_⟩⟩
    have e1 : ((wat W hp d).alloc (.cells ((Lib.splitB b 0 (Lib.countB a b) a).map Value.string).toArray 9)).heap = hp.push (.cells ((Lib.splitB b 0 (Lib.countB a b) a).map Value.string).toArray 9 (0, 0)) := by
      simp [World.alloc, wat]
    rw [e1] at h1 h2
    apply Array.ext_getElem?
    intro c
    by_cases hc : c < s.size
    · rw [hx.2 c hc, Array.getElem?_push, if_neg (by omega)]
    · rw [h2 c (by omega), Array.getElem?_push, Array.getElem?_push, ← vis.size]
      by_cases hc2 : c = s.size
      · rw [if_pos hc2, if_pos hc2]
      · rw [if_neg hc2, if_neg hc2, Array.getElem?_eq_none (by have := vis.size; omega), Array.getElem?_eq_none (by omega)]
  · rintro e s' ⟨rfl, h2⟩
    exact hk s' h2
theorem c_Join {x : Option Addr} {c : Nat} {l : List ByteArray} {b : ByteArray} (hx : x.isSome = true ∨ l = []) (hcells : ∀ a, x = some a → ∀ j y, l[j]? = some y → cellAt s (a.add j) = some (.string y)) (hlt : l ≠ [] → ∀ a, x = some a → a.block < s.size ∧ a.spot = none)
    (hN : l.length ≤ 140737488355328) (hcap : l.length ≤ c) (hlen : (Lib.join (l.map (·.data.toList)) b.data.toList).length ≤ 140737488355328)
    (hk : ∀ s', Ext s s' → K (.string ⟨(Lib.join (l.map (·.data.toList)) b.data.toList).toArray⟩) s') : CALL Pg W F_strings_Join [.slice x l.length c, .string b] K E s := by
  cases l with
  | nil => exact call_of (does_of_quiet (by kernel_rfl) fun w => Tryz.strings_Join_none x c b w) hk
  | cons y r =>
    cases x with
    | none => rcases hx with hx | hx <;> cases hx
    | some a =>
      obtain ⟨h1, h2⟩ := hlt (by simp) a rfl
      obtain ⟨bk, o, sp⟩ := a
      obtain rfl : sp = none := h2
      refine call_of (does_of_calls (by kernel_rfl) fun X hp d vis => ?_) hk
      refine (Tryz.strings_Join bk o c (y :: r) b (wat W hp d) (fun j z hz => cell_of vis (by have := hcells _ rfl j z hz; rwa [show (Addr.mk bk o none).add j = ⟨bk, o + j, none⟩ from by simp [Addr.add]] at this)) (by show bk < hp.size; rw [← vis.size]; exact h1) hN hcap hlen).mono ?_
      rintro e w' ⟨h, hb⟩
      exact ⟨hb, fun s' _ _ hx => ⟨h, hx⟩⟩
end
end Go.Proofs.YtcjgbanpkmpekaaGreatDoor.G

/- Shorter ways through texts over the visible heap: known conditions, counting, variables that are made and written. -/
set_option linter.unusedSimpArgs false
set_option linter.unusedVariables false
set_option maxRecDepth 20000
namespace Go.V
theorem BR_t (x y : Hp → Prop) : BR true x y = x := rfl
theorem BR_f (x y : Hp → Prop) : BR false x y = y := rfl
theorem wrap_succ {k : Nat} (h : k < 1000000000) : IntKind.i64.wrap ((k : Int) + 1) = ((k + 1 : Nat) : Int) := by rw [wrap_i64 (by omega) (by omega)]; rfl
theorem ms_succ {k n : Nat} (h : k < n) (h2 : n ≤ 1000000000) : ((n : Int) - IntKind.i64.wrap ((k : Int) + 1)).toNat < ((n : Int) - (k : Int)).toNat := by rw [wrap_succ (by omega)]; omega
theorem toNat_nat (k : Nat) : ((k : Nat) : Int).toNat = k := Int.toNat_natCast k
theorem NNI_of {b : Int} {K : Hp → Prop} {s : Hp} (hb : 0 ≤ b) (h : K s) : NNI b K s := by
  obtain ⟨n, rfl⟩ := Int.eq_ofNat_of_zero_le hb
  exact h
section
variable {s s0 s' : Hp} {K : Hp → Prop}
/-- A write into a block that was made behind 's0'. -/
theorem ext_kp {b : Nat} (e : Ext s0 s) (h : s0.size ≤ b) (k : Kp (· = b) s s') : Ext s0 s' := ⟨Nat.le_trans e.1 k.1, fun q hq => by
  rw [k.2 q (Nat.lt_of_lt_of_le hq e.1) (fun hh => by have h2 : q = b := hh; omega)]; exact e.2 q hq⟩
theorem kp_nil {C : Nat → Prop} (e : Ext s0 s) (h : ∀ b, C b → s0.size ≤ b) (k : Kp C s s') : Ext s0 s' := ⟨Nat.le_trans e.1 k.1, fun q hq => by
  rw [k.2 q (Nat.lt_of_lt_of_le hq e.1) (fun hh => by have := h q hh; omega)]; exact e.2 q hq⟩
theorem wr1 {a : Addr} {v y : Value} (ha : Own s a y) (h0 : oneCell v = true) (h : ∀ s', Kp (· = a.block) s s' → s'.size = s.size → Own s' a v → K s') : WR a v K s :=
  WR_own ha h0 (h _ (Kp.setC (Kp.refl s) (.inl rfl)) (setC_size _ _ _) (own_set ha))
end
section
variable {P : Program} {s : Hp} {t : TypeId}
/-- A new variable of one cell that is written. -/
theorem nw1 {z0 v0 : Value} {K : Nat → Hp → Prop} (hz : zc P t = [z0]) (h0 : oneCell v0 = true) (h : ∀ s', Ext s s' → s'.size = s.size + 1 → Own s' ⟨s.size, 0, none⟩ v0 → K s.size s') :
    NEWZ P t (fun B => WR (Addr.add ⟨B, 0, none⟩ 0) v0 (K B)) s := by
  refine NEWZ_rule hz fun s1 e1 z1 n1 => ?_
  refine wr1 (a := ⟨s.size, 0, none⟩) (n1 0 _ rfl) h0 fun s2 k2 z2 o2 => ?_
  exact h s2 (ext_kp e1 (Nat.le_refl _) k2) (by omega) o2
/-- .. of more cells. -/
theorem nwN {cs vs : List Value} {K : Nat → Hp → Prop} (hz : zc P t = cs) (hl : vs.length = cs.length) (hv : ∀ v ∈ vs, oneCell v = true) (h : ∀ s', Ext s s' → s'.size = s.size + 1 → (∀ i (h : i < vs.length), Own s' ⟨s.size, i, none⟩ vs[i]) → K s.size s') :
    NEWZ P t (fun B => wrN vs ⟨B, 0, none⟩ 0 (K B)) s := by
  refine NEWZ_rule hz fun s1 e1 z1 n1 => ?_
  refine wrN_rule vs _ 0 _ s1 (fun i hi => ⟨cs[i]'(by omega), ?_⟩) hv fun s2 k2 z2 o2 _ => ?_
  · have := n1 i cs[i] (List.getElem?_eq_getElem (by omega))
    rw [add_nil, Nat.zero_add, Nat.zero_add]; exact this
  · refine h s2 (ext_kp e1 (Nat.le_refl _) k2) (by omega) fun i hi => ?_
    have := o2 i hi
    rw [add_nil, Nat.zero_add, Nat.zero_add] at this; exact this
theorem nw2 {z0 z1 v0 v1 : Value} {K : Nat → Hp → Prop} (hz : zc P t = [z0, z1]) (h0 : oneCell v0 = true) (h1 : oneCell v1 = true) (h : ∀ s', Ext s s' → s'.size = s.size + 1 → Own s' ⟨s.size, 0, none⟩ v0 → Own s' ⟨s.size, 1, none⟩ v1 → K s.size s') :
    NEWZ P t (fun B => WR (Addr.add ⟨B, 0, none⟩ 0) v0 (WR (Addr.add ⟨B, 0, none⟩ 1) v1 (K B))) s :=
  nwN (vs := [v0, v1]) hz rfl (by simp [h0, h1]) fun s' e z o => h s' e z (o 0 (by simp)) (o 1 (by simp))
theorem nw3 {z0 z1 z2 v0 v1 v2 : Value} {K : Nat → Hp → Prop} (hz : zc P t = [z0, z1, z2]) (h0 : oneCell v0 = true) (h1 : oneCell v1 = true) (h2 : oneCell v2 = true) (h : ∀ s', Ext s s' → s'.size = s.size + 1 → Own s' ⟨s.size, 0, none⟩ v0 → Own s' ⟨s.size, 1, none⟩ v1 → Own s' ⟨s.size, 2, none⟩ v2 → K s.size s') :
    NEWZ P t (fun B => WR (Addr.add ⟨B, 0, none⟩ 0) v0 (WR (Addr.add ⟨B, 0, none⟩ 1) v1 (WR (Addr.add ⟨B, 0, none⟩ 2) v2 (K B)))) s :=
  nwN (vs := [v0, v1, v2]) hz rfl (by simp [h0, h1, h2]) fun s' e z o => h s' e z (o 0 (by simp)) (o 1 (by simp)) (o 2 (by simp))
theorem nw4 {z0 z1 z2 z3 v0 v1 v2 v3 : Value} {K : Nat → Hp → Prop} (hz : zc P t = [z0, z1, z2, z3]) (h0 : oneCell v0 = true) (h1 : oneCell v1 = true) (h2 : oneCell v2 = true) (h3 : oneCell v3 = true) (h : ∀ s', Ext s s' → s'.size = s.size + 1 → Own s' ⟨s.size, 0, none⟩ v0 → Own s' ⟨s.size, 1, none⟩ v1 → Own s' ⟨s.size, 2, none⟩ v2 → Own s' ⟨s.size, 3, none⟩ v3 → K s.size s') :
    NEWZ P t (fun B => WR (Addr.add ⟨B, 0, none⟩ 0) v0 (WR (Addr.add ⟨B, 0, none⟩ 1) v1 (WR (Addr.add ⟨B, 0, none⟩ 2) v2 (WR (Addr.add ⟨B, 0, none⟩ 3) v3 (K B))))) s :=
  nwN (vs := [v0, v1, v2, v3]) hz rfl (by simp [h0, h1, h2, h3]) fun s' e z o => h s' e z (o 0 (by simp)) (o 1 (by simp)) (o 2 (by simp)) (o 3 (by simp))
/-- A new variable as it is. -/
theorem nz1 {v0 : Value} {K : Nat → Hp → Prop} (hz : zc P t = [v0]) (h : ∀ s', Ext s s' → s'.size = s.size + 1 → Own s' ⟨s.size, 0, none⟩ v0 → K s.size s') : NEWZ P t K s :=
  NEWZ_rule hz fun s1 e1 z1 n1 => h s1 e1 z1 (n1 0 _ rfl)
theorem nz2 {v0 v1 : Value} {K : Nat → Hp → Prop} (hz : zc P t = [v0, v1]) (h : ∀ s', Ext s s' → s'.size = s.size + 1 → Own s' ⟨s.size, 0, none⟩ v0 → Own s' ⟨s.size, 1, none⟩ v1 → K s.size s') : NEWZ P t K s :=
  NEWZ_rule hz fun s1 e1 z1 n1 => h s1 e1 z1 (n1 0 _ rfl) (n1 1 _ rfl)
theorem nz4 {v0 v1 v2 v3 : Value} {K : Nat → Hp → Prop} (hz : zc P t = [v0, v1, v2, v3]) (h : ∀ s', Ext s s' → s'.size = s.size + 1 → Own s' ⟨s.size, 0, none⟩ v0 → Own s' ⟨s.size, 1, none⟩ v1 → Own s' ⟨s.size, 2, none⟩ v2 → Own s' ⟨s.size, 3, none⟩ v3 → K s.size s') : NEWZ P t K s :=
  NEWZ_rule hz fun s1 e1 z1 n1 => h s1 e1 z1 (n1 0 _ rfl) (n1 1 _ rfl) (n1 2 _ rfl) (n1 3 _ rfl)
theorem ne1 {v0 : Value} {K : Nat → Hp → Prop} (h : ∀ s', Ext s s' → s'.size = s.size + 1 → Own s' ⟨s.size, 0, none⟩ v0 → K s.size s') : NEW t [v0] K s :=
  NEW_rule fun s1 e1 z1 n1 _ => h s1 e1 z1 (n1 0 _ rfl)
theorem ne2 {v0 v1 : Value} {K : Nat → Hp → Prop} (h : ∀ s', Ext s s' → s'.size = s.size + 1 → Own s' ⟨s.size, 0, none⟩ v0 → Own s' ⟨s.size, 1, none⟩ v1 → K s.size s') : NEW t [v0, v1] K s :=
  NEW_rule fun s1 e1 z1 n1 _ => h s1 e1 z1 (n1 0 _ rfl) (n1 1 _ rfl)
theorem ne4 {v0 v1 v2 v3 : Value} {K : Nat → Hp → Prop} (h : ∀ s', Ext s s' → s'.size = s.size + 1 → Own s' ⟨s.size, 0, none⟩ v0 → Own s' ⟨s.size, 1, none⟩ v1 → Own s' ⟨s.size, 2, none⟩ v2 → Own s' ⟨s.size, 3, none⟩ v3 → K s.size s') : NEW t [v0, v1, v2, v3] K s :=
  NEW_rule fun s1 e1 z1 n1 _ => h s1 e1 z1 (n1 0 _ rfl) (n1 1 _ rfl) (n1 2 _ rfl) (n1 3 _ rfl)
end
end Go.V
namespace Go.V
theorem MKS_rule {P : Program} {t : TypeId} {n : Nat} {z : Value} {K : Nat → Hp → Prop} {s : Hp} (hz : zc P t = [z]) (hn : n ≤ 100000) (h : ∀ s', Ext s s' → s'.size = s.size + 1 → (∀ i, i < n → Own s' ⟨s.size, i, none⟩ z) → K s.size s') : MKS P t (n : Int) (n : Int) K s := by
  refine ⟨⟨by omega, by omega, by omega⟩, ?_⟩
  rw [hz, Int.toNat_natCast]
  exact h _ (Ext.push (Ext.refl _)) (by simp) fun i hi => own_new (repL_getD z n i hi)
theorem IXS_nat {a : Addr} {l i es : Nat} {K : Addr → Hp → Prop} {s : Hp} (h : i < l) (hk : K (a.add (i * es)) s) : IXS (some a) l (i : Int) es K s := ⟨a, rfl, ⟨by omega, by omega⟩, hk⟩
end Go.V
namespace Go.V
theorem BR_ff {c : Bool} {x y : Hp → Prop} {s : Hp} (h : c = false) (hk : y s) : BR c x y s := by rw [h]; exact hk
theorem BR_tt {c : Bool} {x y : Hp → Prop} {s : Hp} (h : c = true) (hk : x s) : BR c x y s := by rw [h]; exact hk
end Go.V
namespace Go.V
theorem ANDS_i {x K : Hp → Prop} {s : Hp} (h : x s) (k : K s) : ANDS x K s := ⟨h, k⟩
theorem CONJ_one {a : Hp → Prop} {s : Hp} (h : a s) : CONJ [a] s := h
theorem CONJ_more {s : Hp} {a b : Hp → Prop} {l : List (Hp → Prop)} (h1 : a s) (h2 : CONJ (b :: l) s) : CONJ (a :: b :: l) s := ⟨h1, h2⟩
end Go.V

/- Book, plain: numbers, lines and parts of texts. -/
set_option linter.unusedVariables false
set_option linter.unusedSimpArgs false
set_option maxRecDepth 20000
namespace Go.Proofs.YtcjgbanpkmpekaaGreatDoor.G
open Go
abbrev BL := List UInt8
/-- A number as it is written. -/
def it (n : Int) : BL := Lib.itoa n
def isD (c : UInt8) : Prop := 48 ≤ c.toNat ∧ c.toNat ≤ 57
theorem d_nat {d : Nat} (h : d < 10) : (UInt8.ofNat (48 + d)).toNat = 48 + d := by simp [UInt8.toNat_ofNat']; omega
theorem dec_dig (u : Nat) : ∀ c ∈ Lib.decDigits u, isD c := by
  induction u using Nat.strongRecOn with
  | _ u ih =>
    intro c hc
    rw [Lib.decDigits] at hc
    split at hc
    · rename_i h
      simp only [List.mem_singleton] at hc
      subst hc
      unfold isD; rw [d_nat h]; omega
    · rcases List.mem_append.1 hc with hc | hc
      · exact ih (u / 10) (by omega) c hc
      · simp only [List.mem_singleton] at hc
        subst hc
        unfold isD; rw [d_nat (by omega)]; omega
theorem dec_ne (u : Nat) : Lib.decDigits u ≠ [] := by
  rw [Lib.decDigits]; split <;> simp
theorem it_nn {n : Int} (h : 0 ≤ n) : it n = Lib.decDigits n.toNat := by unfold it Lib.itoa; rw [if_neg (by omega)]
theorem it_dig {n : Int} (h : 0 ≤ n) : ∀ c ∈ it n, isD c := by rw [it_nn h]; exact dec_dig _
theorem it_ne (n : Int) : it n ≠ [] := by
  unfold it Lib.itoa
  split
  · simp
  · exact dec_ne _
theorem isD_ne {c : UInt8} (h : isD c) {d : UInt8} (hd : d.toNat < 48 ∨ 57 < d.toNat) : c ≠ d := by
  rintro rfl; unfold isD at h; omega
theorem parse_app : ∀ (l r : BL) (a v : Nat), Lib.parseUint10 a l = .ok v → Lib.parseUint10 a (l ++ r) = Lib.parseUint10 v r
  | [], r, a, v, h => by
    simp only [Lib.parseUint10] at h
    injection h with h; subst h; rfl
  | c :: l, r, a, v, h => by
    simp only [List.cons_append, Lib.parseUint10] at h ⊢
    split at h
    · rename_i hc
      rw [if_pos hc]
      split at h
      · cases h
      · rename_i h1
        rw [if_neg h1]
        split at h
        · cases h
        · rename_i h2
          rw [if_neg h2]
          exact parse_app l r _ v h
    · cases h
theorem parse_dec (u : Nat) : u < 9223372036854775808 → Lib.parseUint10 0 (Lib.decDigits u) = .ok u := by
  induction u using Nat.strongRecOn with
  | _ u ih =>
    intro hu
    rw [Lib.decDigits]
    split
    · rename_i h
      simp only [Lib.parseUint10]
      rw [d_nat h, if_pos (by omega), if_neg (by omega), if_neg (by omega)]
      congr 1; omega
    · rename_i h
      rw [parse_app _ _ _ _ (ih (u / 10) (by omega) (by omega))]
      simp only [Lib.parseUint10]
      rw [d_nat (by omega), if_pos (by omega), if_neg (by omega), if_neg (by omega)]
      congr 1; omega
/-- What a text is as a number. -/
def figL (l : BL) : Option Int := match Lib.atoiAll l with | .ok v => some v | _ => none
theorem fig_it {n : Int} (h0 : 0 ≤ n) (h1 : n < 9223372036854775808) : figL (it n) = some n := by
  have hp : Lib.atoiAll (it n) = .ok n := by
    have hd := it_dig h0
    rw [it_nn h0] at hd ⊢
    have hpd := parse_dec n.toNat (by omega)
    cases hl : Lib.decDigits n.toNat with
    | nil => exact absurd hl (dec_ne _)
    | cons c r =>
      rw [hl] at hd hpd
      have hc := hd c (by simp)
      unfold isD at hc
      unfold Lib.atoiAll
      simp only
      rw [if_neg (by omega : ¬ (c.toNat = 43 ∨ c.toNat = 45))]
      unfold Lib.parseMag
      rw [if_neg (by simp), hpd]
      simp only
      have h45 : ¬ c.toNat = 45 := by omega
      rw [if_neg (by omega), if_neg (by omega), if_neg h45]
      congr 1; omega
  unfold figL; rw [hp]
/-- A text's parts between bytes. -/
def spl (c : UInt8) : BL → List BL
  | [] => [[]]
  | x :: r => if x = c then [] :: spl c r else match spl c r with
    | [] => [[x]]
    | w :: ws => (x :: w) :: ws
theorem spl_ne (c : UInt8) : ∀ l, spl c l ≠ []
  | [] => by simp [spl]
  | x :: r => by
    unfold spl
    split
    · simp
    · split <;> simp
theorem spl_app {c : UInt8} : ∀ {l r : BL}, c ∉ l → spl c (l ++ c :: r) = l :: spl c r
  | [], r, h => by simp [spl]
  | x :: l, r, h => by
    simp only [List.mem_cons, not_or] at h
    rw [List.cons_append]
    simp only [spl]
    rw [if_neg (fun e => h.1 e.symm), spl_app h.2]
theorem spl_none {c : UInt8} : ∀ {l : BL}, c ∉ l → spl c l = [l]
  | [], h => by simp [spl]
  | x :: l, h => by
    simp only [List.mem_cons, not_or] at h
    simp only [spl]
    rw [if_neg (fun e => h.1 e.symm), spl_none h.2]
theorem spl_mem {c : UInt8} : ∀ {l : BL} {w : BL}, w ∈ spl c l → c ∉ w
  | [], w, h => by simp [spl] at h; subst h; simp
  | x :: r, w, h => by
    unfold spl at h
    split at h
    · rcases List.mem_cons.1 h with rfl | h
      · simp
      · exact spl_mem h
    · rename_i hx
      have ih := @spl_mem c r
      split at h
      · simp at h; subst h; simpa using fun e => hx e.symm
      · rename_i w' ws e
        rcases List.mem_cons.1 h with rfl | h
        · have := ih (w := w') (by rw [e]; simp)
          simp only [List.mem_cons, not_or]
          exact ⟨fun e => hx e.symm, this⟩
        · exact ih (by rw [e]; simp [h])
/-- Words, with a byte between them. -/
def jn (c : UInt8) : List BL → BL
  | [] => []
  | [w] => w
  | w :: v :: ws => w ++ c :: jn c (v :: ws)
theorem jn_spl (c : UInt8) : ∀ l, jn c (spl c l) = l
  | [] => rfl
  | x :: r => by
    have ih := jn_spl c r
    unfold spl
    split
    · rename_i h
      subst h
      cases hs : spl x r with
      | nil => exact absurd hs (spl_ne _ _)
      | cons w ws => rw [hs] at ih; simp only [jn]; rw [ih]; rfl
    · cases hs : spl c r with
      | nil => exact absurd hs (spl_ne _ _)
      | cons w ws =>
        rw [hs] at ih
        cases ws with
        | nil => simp only [jn] at ih ⊢; rw [ih]
        | cons v vs => simp only [jn] at ih ⊢; rw [List.cons_append, ih]
theorem spl_jn {c : UInt8} : ∀ {ws : List BL}, ws ≠ [] → (∀ w ∈ ws, c ∉ w) → spl c (jn c ws) = ws
  | [], h, _ => absurd rfl h
  | [w], _, h => by simp only [jn]; exact spl_none (h w (by simp))
  | w :: v :: ws, _, h => by
    simp only [jn]
    rw [spl_app (h w (by simp)), spl_jn (by simp) (fun x hx => h x (by simp [hx]))]
theorem jn_join (c : UInt8) : ∀ ws, Lib.join ws [c] = jn c ws
  | [] => rfl
  | [w] => by rw [Lib.join_one]; rfl
  | w :: v :: ws => by
    have ih := jn_join c (v :: ws)
    rw [Lib.join_cons] at ih ⊢
    simp only [jn]
    rw [← ih]
    simp [Lib.joinTail]
theorem jn_not {c d : UInt8} (hcd : d ≠ c) : ∀ {ws : List BL}, (∀ w ∈ ws, d ∉ w) → d ∉ jn c ws
  | [], _ => by simp [jn]
  | [w], h => h w (by simp)
  | w :: v :: ws, h => by
    simp only [jn, List.mem_append, List.mem_cons, not_or]
    exact ⟨h w (by simp), hcd, jn_not hcd (fun x hx => h x (by simp only [List.mem_cons] at hx ⊢; exact .inr hx))⟩
/-- A line of words. -/
def ln (ws : List BL) : BL := jn 32 ws ++ [10]
/-- A text of lines of words. -/
def txt (W : List (List BL)) : BL := W.flatMap ln
theorem txt_app (A B : List (List BL)) : txt (A ++ B) = txt A ++ txt B := by simp [txt]
theorem txt_cons (w : List BL) (B : List (List BL)) : txt (w :: B) = ln w ++ txt B := by simp [txt]
/-- Words that can be told apart. -/
def Good (W : List (List BL)) : Prop := ∀ ws ∈ W, ws ≠ [] ∧ ∀ w ∈ ws, 32 ∉ w ∧ 10 ∉ w
theorem Good.app {A B : List (List BL)} (a : Good A) (b : Good B) : Good (A ++ B) := fun ws h => (List.mem_append.1 h).elim (a ws) (b ws)
theorem Good.cons {w : List BL} {B : List (List BL)} (a : w ≠ [] ∧ ∀ x ∈ w, 32 ∉ x ∧ 10 ∉ x) (b : Good B) : Good (w :: B) := fun ws h => (List.mem_cons.1 h).elim (fun e => e ▸ a) (b ws)
theorem Good.nil : Good [] := fun ws h => by simp at h
theorem Good.line {W : List (List BL)} (g : Good W) {ws : List BL} (h : ws ∈ W) : 10 ∉ jn 32 ws := jn_not (by decide) fun w hw => ((g ws h).2 w hw).2
/-- The document's lines: between line feeds, of which there is one at the end. -/
def docL (s : BL) : Option (List (List BL)) := if (spl 10 s).getLast? = some [] ∧ 2 ≤ (spl 10 s).length then some ((spl 10 s).dropLast.map (spl 32)) else none
theorem spl_txt : ∀ {W : List (List BL)}, Good W → spl 10 (txt W) = W.map (jn 32) ++ [[]]
  | [], _ => rfl
  | ws :: W, g => by
    rw [txt_cons]
    unfold ln
    rw [List.append_assoc, List.singleton_append, spl_app (g.line (by simp)), spl_txt (fun x hx => g x (by simp [hx]))]
    rfl
theorem map_jn : ∀ {W : List (List BL)}, Good W → (W.map (jn 32)).map (spl 32) = W
  | [], _ => rfl
  | ws :: W, g => by
    simp only [List.map_cons]
    have := map_jn (W := W) (fun x hx => g x (by simp [hx]))
    rw [this, spl_jn (g ws (by simp)).1 (fun w hw => ((g ws (by simp)).2 w hw).1)]
theorem docL_txt {W : List (List BL)} (g : Good W) (h : W ≠ []) : docL (txt W) = some W := by
  unfold docL
  rw [spl_txt g, if_pos, List.dropLast_concat, map_jn g]
  refine ⟨by simp, ?_⟩
  cases W with
  | nil => exact absurd rfl h
  | cons a b => simp
theorem jn_last (c : UInt8) : ∀ {l : List BL}, 2 ≤ l.length → l.getLast? = some [] → jn c l = l.dropLast.flatMap (· ++ [c])
  | [], h, _ => by simp at h
  | [_], h, _ => by simp at h
  | [w, v], _, h => by
    simp at h; subst h
    simp [jn]
  | w :: v :: u :: ws, _, h => by
    have ih := jn_last c (l := v :: u :: ws) (by simp) (by simpa using h)
    simp only [jn] at ih ⊢
    rw [ih]
    simp
theorem txt_docL {s : BL} {W : List (List BL)} (h : docL s = some W) : txt W = s := by
  unfold docL at h
  split at h
  · rename_i hh
    injection h with h
    subst h
    have h1 := jn_last 10 hh.2 hh.1
    rw [jn_spl] at h1
    conv => rhs; rw [h1]
    unfold txt
    rw [List.flatMap_map]
    congr 1
    funext l
    unfold ln
    rw [jn_spl]
  · cases h
theorem docL_ne {s : BL} {W : List (List BL)} (h : docL s = some W) : W ≠ [] := by
  unfold docL at h
  split at h
  · rename_i hh
    injection h with h
    subst h
    intro e
    have := congrArg List.length e
    simp at this
    omega
  · cases h
theorem docL_good {s : BL} {W : List (List BL)} (h : docL s = some W) : Good W := by
  unfold docL at h
  split at h
  · injection h with h
    subst h
    intro ws hws
    obtain ⟨l, hl, rfl⟩ := List.mem_map.1 hws
    refine ⟨spl_ne _ _, fun w hw => ⟨spl_mem hw, ?_⟩⟩
    have h10 : 10 ∉ l := spl_mem (List.dropLast_subset _ hl)
    intro h
    have hj := jn_spl 32 l
    have : 10 ∈ jn 32 (spl 32 l) := by
      clear hj h10
      generalize spl 32 l = ws' at hw
      induction ws' with
      | nil => simp at hw
      | cons a r ih =>
        cases r with
        | nil => simp at hw; subst hw; exact h
        | cons b r =>
          simp only [jn]
          rcases List.mem_cons.1 hw with rfl | hw
          · exact List.mem_append.2 (.inl h)
          · have := ih hw
            exact List.mem_append.2 (.inr (by simp [this]))
    rw [hj] at this
    exact h10 this
  · cases h
/-- The lines that strings.Lines yields. -/
def lnl : BL → List BL
  | [] => []
  | x :: r => if x = 10 then [10] :: lnl r else match lnl r with
    | [] => [[x]]
    | w :: ws => (x :: w) :: ws
theorem lnl_app : ∀ {l r : BL}, 10 ∉ l → lnl (l ++ 10 :: r) = (l ++ [10]) :: lnl r
  | [], r, h => by simp [lnl]
  | x :: l, r, h => by
    simp only [List.mem_cons, not_or] at h
    rw [List.cons_append]
    simp only [lnl]
    rw [if_neg (fun e => h.1 e.symm), lnl_app h.2]
    rfl
theorem lnl_none : ∀ {l : BL}, 10 ∉ l → l ≠ [] → lnl l = [l]
  | [], _, h => absurd rfl h
  | [x], h, _ => by
    simp only [List.mem_cons, not_or] at h
    simp only [lnl]; rw [if_neg (fun e => h.1 e.symm)]
  | x :: y :: l, h, _ => by
    simp only [List.mem_cons, not_or] at h
    rw [lnl]; rw [if_neg (fun e => h.1 e.symm), lnl_none (by simp only [List.mem_cons, not_or]; exact h.2) (by simp)]
theorem lnl_txt : ∀ {W : List (List BL)}, Good W → lnl (txt W) = W.map ln
  | [], _ => rfl
  | ws :: W, g => by
    rw [txt_cons]
    have : ln ws ++ txt W = jn 32 ws ++ 10 :: txt W := by simp [ln]
    rw [this, lnl_app (g.line (by simp)), lnl_txt (fun x hx => g x (by simp [hx]))]
    rfl
/-- The parts of a line that strings.Lines yields. -/
def lparts (l : BL) : List BL := spl 32 (Lib.trimSuffix l [10])
theorem trim_ln (l : BL) : Lib.trimSuffix (l ++ [10]) [10] = l := by
  unfold Lib.trimSuffix Lib.hasSuffix
  rw [if_pos]
  · simp
  · simp [List.isSuffixOf]
theorem lparts_ln {ws : List BL} (h : ws ≠ []) (g : ∀ w ∈ ws, 32 ∉ w) : lparts (ln ws) = ws := by
  unfold lparts ln
  rw [trim_ln, spl_jn h g]
theorem lparts_txt {W : List (List BL)} (g : Good W) : (lnl (txt W)).map lparts = W := by
  rw [lnl_txt g, List.map_map]
  conv => rhs; rw [← List.map_id W]
  apply List.map_congr_left
  intro ws hws
  exact lparts_ln (g ws hws).1 fun w hw => ((g ws hws).2 w hw).1
theorem suf_txt {W : List (List BL)} (h : W ≠ []) : Lib.hasSuffix (txt W) [10] = true := by
  unfold Lib.hasSuffix
  rw [List.isSuffixOf_iff_suffix]
  obtain ⟨A, a, rfl⟩ : ∃ A a, W = A ++ [a] := ⟨W.dropLast, W.getLast h, (List.dropLast_concat_getLast h).symm⟩
  rw [txt_app]
  refine ⟨txt A ++ jn 32 a, ?_⟩
  simp [txt, ln]
/-! ### One byte's first place -/
theorem occ_one {s : BL} {c : UInt8} {i : Nat} : Lib.occAt s [c] i = true ↔ s[i]? = some c := by
  unfold Lib.occAt
  cases h : s.drop i with
  | nil =>
    have : s.length ≤ i := by simpa using h
    rw [List.getElem?_eq_none this]
    simp
  | cons a r =>
    have ha : s[i]? = some a := by
      have := congrArg (·[0]?) h
      simpa using this
    rw [ha]
    simp [List.isPrefixOf]
    exact eq_comm
theorem index_one_none {s : BL} {c : UInt8} (h : c ∉ s) : Lib.index s [c] = -1 := by
  apply Lib.index_none
  intro j hj
  rw [Bool.eq_false_iff]
  intro hh
  rw [occ_one] at hh
  exact h (List.mem_of_getElem? hh)
theorem index_one {l r : BL} {c : UInt8} (h : c ∉ l) : Lib.index (l ++ c :: r) [c] = (l.length : Nat) := by
  apply Lib.index_first
  · simp
  · rw [occ_one]; simp
  · intro j hj
    rw [Bool.eq_false_iff]
    intro hh
    rw [occ_one, List.getElem?_append_left hj] at hh
    exact h (List.mem_of_getElem? hh)
theorem one_split {c : UInt8} : ∀ {s : BL}, c ∈ s → ∃ l r, s = l ++ c :: r ∧ c ∉ l
  | [], h => by simp at h
  | x :: t, h => by
    by_cases hx : x = c
    · exact ⟨[], t, by simp [hx], by simp⟩
    · have ht : c ∈ t := by
        rcases List.mem_cons.1 h with h | h
        · exact absurd h.symm hx
        · exact h
      obtain ⟨l, r, h1, h2⟩ := one_split ht
      exact ⟨x :: l, r, by rw [h1]; rfl, by simp only [List.mem_cons, not_or]; exact ⟨fun e => hx e.symm, h2⟩⟩
/-- What strings.Split makes of a text, at one byte. -/
theorem split_one (c : UInt8) : ∀ (k : Nat) (s : BL), Lib.count s [c] = k → Lib.splitK [c] 0 k s = spl c s
  | 0, s, h => by
    have hn : c ∉ s := by
      intro hc
      obtain ⟨l, r, rfl, h2⟩ := one_split hc
      rw [Lib.count_hit (i := l.length) (by simp) (index_one h2)] at h
      omega
    rw [spl_none hn]; rfl
  | k + 1, s, h => by
    by_cases hc : c ∈ s
    · obtain ⟨l, r, rfl, h2⟩ := one_split hc
      have hi := index_one (r := r) h2
      rw [Lib.count_hit (i := l.length) (by simp) hi] at h
      have hd : (l ++ c :: r).drop (l.length + [c].length) = r := by
        rw [show l.length + [c].length = (l ++ [c]).length by simp, show l ++ c :: r = (l ++ [c]) ++ r by simp, List.drop_left]
      rw [hd] at h
      have ih := split_one c k r (by omega)
      rw [spl_app h2]
      unfold Lib.splitK
      rw [hi, if_neg (by simp), Int.toNat_natCast, hd, ih, Nat.add_zero, List.take_left]
    · rw [Lib.count_miss (index_one_none hc)] at h
      omega
/-- Two dots between numbers. -/
theorem cut_dots {l r : BL} (h : 46 ∉ l) : Lib.cut (l ++ 46 :: 46 :: r) [46, 46] = (l, r, true) := by
  have hi : Lib.index (l ++ 46 :: 46 :: r) [46, 46] = (l.length : Nat) := by
    apply Lib.index_first
    · simp
    · unfold Lib.occAt
      rw [List.drop_left]
      simp [List.isPrefixOf]
    · intro j hj
      rw [Bool.eq_false_iff]
      intro hh
      have := Lib.occAt_head rfl hh
      rw [List.getElem?_append_left hj] at this
      exact h (List.mem_of_getElem? this)
  unfold Lib.cut
  rw [hi, if_pos (by omega), Int.toNat_natCast, List.take_left]
  have : (l ++ 46 :: 46 :: r).drop (l.length + ([46, 46] : BL).length) = r := by
    rw [show l.length + ([46, 46] : BL).length = (l ++ [46, 46]).length by simp, show l ++ 46 :: 46 :: r = (l ++ [46, 46]) ++ r by simp, List.drop_left]
  rw [this]
/-- How long numbers are. -/
theorem nDigits_le : ∀ (k u : Nat), u < 10 ^ (k + 1) → Lib.nDigits u ≤ k + 1
  | 0, u, h => by rw [Lib.nDigits_small (by simpa using h)]; omega
  | k + 1, u, h => by
    by_cases hu : u < 10
    · rw [Lib.nDigits_small hu]; omega
    · rw [Lib.nDigits_big hu]
      have := nDigits_le k (u / 10) (by rw [Nat.pow_succ] at h; omega)
      omega
theorem it_len {n : Int} (h0 : -9223372036854775808 ≤ n) (h1 : n ≤ 9223372036854775807) : (it n).length ≤ 20 := by
  unfold it Lib.itoa
  have hk : ∀ u : Nat, u < 10 ^ 19 → (Lib.decDigits u).length ≤ 19 := fun u hu => by rw [Lib.decDigits_length]; exact nDigits_le 18 u hu
  split
  · have := hk n.natAbs (by omega)
    simp; omega
  · have := hk n.toNat (by omega)
    omega
theorem it_len2 {n : Int} (h0 : 0 ≤ n) (h1 : n ≤ 99) : (it n).length ≤ 2 := by
  rw [it_nn h0, Lib.decDigits_length]
  exact nDigits_le 1 _ (by omega)
theorem it_len6 {n : Int} (h0 : 0 ≤ n) (h1 : n ≤ 999999) : (it n).length ≤ 6 := by
  rw [it_nn h0, Lib.decDigits_length]
  exact nDigits_le 5 _ (by omega)
theorem fig_rg {l : BL} {n : Int} (h : figL l = some n) : -9223372036854775808 ≤ n ∧ n ≤ 9223372036854775807 := by
  unfold figL at h
  split at h
  · rename_i v hv
    injection h with h
    subst h
    unfold Lib.atoiAll at hv
    cases l with
    | nil => cases hv
    | cons c r =>
      simp only at hv
      generalize hm : Lib.parseMag (if c.toNat = 43 ∨ c.toNat = 45 then r else c :: r) = m at hv
      cases m with
      | range => cases hv
      | ok u =>
        have := Lib.parseMag_lt hm
        simp only at hv
        split at hv
        · cases hv
        · rename_i h1
          split at hv
          · cases hv
          · rename_i h2
            injection hv with hv
            subst hv
            split
            · rename_i h3
              have : ¬ (9223372036854775808 < u) := fun h => h2 ⟨h3, h⟩
              omega
            · rename_i h3
              have : ¬ (9223372036854775808 ≤ u) := fun h => h1 ⟨h3, h⟩
              omega
      | _ => cases hv
  · cases h
end Go.Proofs.YtcjgbanpkmpekaaGreatDoor.G
